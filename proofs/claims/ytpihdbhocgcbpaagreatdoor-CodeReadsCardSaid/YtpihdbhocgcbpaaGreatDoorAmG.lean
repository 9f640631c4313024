/- The abstract machine: more rules; contracts; heaps as lists; strings and builders; lists that grow; short names. -/
import Derived.Test.YtpihdbhocgcbpaaGreatDoorAmF
import Derived.ChangeReads
import Derived.ChangeArms
set_option linter.unusedSectionVars false
set_option linter.unusedVariables false
set_option linter.unusedSimpArgs false
namespace Am
open Go
section
variable (E : Env)
abbrev Rd:=Nat×Nat×(Nat→Option AObj→Prop)
structure PN where
 pan:AV→St→Prop
 rl:List Rd
def RdOk (KN:PN) (i:Nat) (looked:Looked):Prop:=(∀e∈KN.rl,e.1<i)∧(∀p∈looked,p.1<i)∧∀p∈looked,∀e∈KN.rl,p.1=e.1→p.2.1= .block e.2.1∧∀n o,e.2.2 n o→p.2.2 n o=true
theorem RdOk.cons {KN:PN} {i:Nat} {looked:Looked} {tch:Touch} {re:Nat→Option AObj→Bool} (h:RdOk KN i looked):RdOk KN (i+1) ((i,tch,re)::looked):=
 ⟨fun e he=>Nat.lt_succ_of_lt (h.1 e he),fun p hp=>by
  rcases Qk.1 hp with rfl|hp
  ·exact Nat.lt_succ_self _
  ·exact Nat.lt_succ_of_lt (h.2.1 p hp),fun p hp e he x=>by
  rcases Qk.1 hp with rfl|hp
  ·have:=h.1 e he
   have x:i=e.1:=x
   omega
  ·exact h.2.2 p hp e he x⟩
def AtN (KN:PN) (K:Sl→St→Prop) (all:List Oper) (T0:Tr AV) (ex:Ex) (l:Sl) (T:Tr AV) (s:St):Prop:=match ex with
 | .normal=>K l s∧Has l T
 | .panic v=>KN.pan v s∧T=clearT all T0
 |_=>False
def RegN (KN:PN) (all rest:List Oper) (i:Nat) (fr:Fr) (l:Sl) (st:St) (js:List Nat) (nl:News) (K:Sl→St→Prop):Prop:=
 ∀(T0 T:Tr AV) (news:News) (looked:Looked),Has l T→(∀p∈news,p∈nl)→(∀p∈looked,p.1∈js∨p.2.1= .nothing)→RdOk KN i looked→
  ∃N ex l' T' s',AtN KN K all T0 ex l' T' s'∧∀n,N≤n→drawRest E all (ev E n) fr T0 (planD E (befores all) rest i) ⟨T,st,news,looked⟩= .one ⟨ex,fr,T',s'⟩
end
def putL (d:Option Nat) (v:AV) (l:Sl):Sl:=match d with
 |some d=>(d,v)::l
 |none=>l
noncomputable def ancOf (all:List Oper) (i:Nat):Nat:=(nth (befores all) i).getD 0
section
variable {E : Env} {fr : Fr} {l : Sl} {st : St} {o : Oper} {all rest : List Oper} {i : Nat} {js : List Nat} {nl : News} {K : Sl → St → Prop} {od : Option Nat}
theorem Has.putL {T:Tr AV} (h:Has l T) (d:Option Nat) (v:AV):Has (Am.putL d v l) (putT d v T):=by
 cases d with
 |none=>exact h
 |some d=>exact h.put d v
theorem putC_ok {nt:Nat} {v:AV} {T:Tr AV} (hlt:dstOk nt od=true):putC od nt v T=some (putT od v T):=by
 cases od with
 |none=>rfl
 |some d=>
  show(bif Nat.blt d nt then some (Tr.setP (some v) (pathOf d) T)else none)=_
  have:Nat.blt d nt=true:=hlt
  rw[this];rfl
theorem Fk {nt:Nat} {d:DOp} {q:DSt} {tch:Touch} {v:AV} {H:Tr AObj} (hd:d.o.dst=od) (hlt:dstOk nt od=true):
 drawPut nt d q (tch,v,q.st.sub H)=some ⟨putT od v q.T,q.st,q.news,(d.i,tch,reOf d q (tch,v,q.st.sub H))::q.looked⟩:=by
 unfold drawPut
 have h1:Nat.ble q.st.next (q.st.sub H).next=true:=ble_self _
 have h2:(q.st.sub H).next-q.st.next=0:=Nat.sub_self _
 have h3:(q.st.sub H).log=[]:=rfl
 simp only[h1,h2,h3,hd,putC_ok hlt,mayWrite,Bool.and_self,cond_true,Qe,newL,copyAll,tagL,below]
 rfl
theorem AG {KN:PN} (h:K l st):RegN E KN all [] i fr l st js nl K:=fun T0 T news looked hT _ _ _=>⟨0,.normal,l,T,st,⟨h,hT⟩,fun _ _=>rfl⟩
def clearL (ops:List Oper) (l:Sl):Sl:=l.filter fun p=>ops.all fun o=> !dstIs p.1 o
theorem clear_none:∀ {ops:List Oper} {T:Tr AV} {k:Nat},(ops.all fun o=> !dstIs k o)=true→(clearT ops T).get k=T.get k
 | [],_,_,_=>rfl
 |o::ops,T,k,h=>by
  rw[List.all_cons,Qf]at h
  unfold clearT
  unfold dstIs at h
  cases hd:o.dst with
  |none=>exact clear_none h.2
  |some d=>
   rw[hd]at h
   show(clearT ops (T.set d none)).get k=_
   rw[clear_none h.2,AW,if_neg]
   intro e
   subst e
   simp at h
theorem Has.clear {ops:List Oper} {T:Tr AV} (h:Has l T):Has (clearL ops l) (clearT ops T):=by
 intro k v hk
 have key:∀ {l:Sl},look k (clearL ops l)=some v→(ops.all fun o=> !dstIs k o)=true∧look k l=some v:=by
  intro l
  induction l with
  |nil=>intro h;cases h
  |cons p l ih=>
   intro h
   unfold clearL at h
   rw[List.filter_cons]at h
   split at h
   ·next hp=>
    unfold look at h⊢
    cases hb:Nat.beq k p.1 with
    |true=>
     rw[hb]at h
     have:=Qb hb
     subst this
     exact⟨hp,h⟩
    |false=>rw[hb]at h;exact ih h
   ·next hp=>
    obtain⟨h1,h2⟩:=ih h
    refine⟨h1,?_⟩
    unfold look
    cases hb:Nat.beq k p.1 with
    |true=>
     have:=Qb hb
     subst this
     exact absurd h1 hp
    |false=>exact h2
 obtain⟨h1,h2⟩:=key hk
 rw[clear_none h1]
 exact h k v h2
theorem Dw {Q:Ex→Fr→Sl→St→Prop} {k:Nat} {ops:Array Oper} (hok:drawOk ops.toList=true) (h:RegN E ⟨fun v s=>Q (.panic v) fr (clearL ops.toList l) s,[]⟩ ops.toList ops.toList 0 fr l st [] [] (Q .normal fr)):EvtL E (.region k ops true) fr l st Q:=by
 intro T hT
 obtain⟨N,ex,l',T',s',hk,hr⟩:=h T T [] [] hT (fun p hp=>by cases hp) (fun p hp=>by cases hp) ⟨fun e he=>(by cases he),fun p hp=>(by cases hp),fun p hp=>by cases hp⟩
 have hrun:∀n,N≤n→(codeC E (.region k ops true)).run (ev E n) fr T st= .one ⟨ex,fr,T',s'⟩:=by
  intro n hn
  show(regionC E ops.toList true).run (ev E n) fr T st=_
  unfold regionC drawnC
  simp only[cond_true,hok]
  exact hr n hn
 cases ex with
 |normal=>exact⟨N,.normal,fr,l',T',s',hk.1,hk.2,hrun⟩
 |panic v=>exact⟨N,.panic v,fr,_,T',s',hk.1,by rw[hk.2];exact hT.clear,hrun⟩
 |exit _=>exact hk.elim
 |ret=>exact hk.elim
theorem AK {Q:Ex→Fr→Sl→St→Prop} {k:Nat} {ops:Array Oper} {b:Code} (hok:drawOk ops.toList=true) (h:RegN E ⟨fun v s=>Q (.panic v) fr (clearL ops.toList l) s,[]⟩ ops.toList ops.toList 0 fr l st [] [] fun l s=>EvtL E b fr l s Q):EvtL E (.seq (.region k ops true) b) fr l st Q:=
 Ab (Dw hok h)
theorem Fj {ev:Ev} {T0:Tr AV} {q q':DSt} {r:Touch×AV×St} {out:Out} (h1:drawRun E all ev fr (dop E all i o) q=some r) (h2:drawPut fr.nt (dop E all i o) q r=some q')
 (h:drawRest E all ev fr T0 (planD E (befores all) rest (i+1)) q'=out):drawRest E all ev fr T0 (planD E (befores all) (o::rest) i) q=out:=by
 show(match drawRun E all ev fr (dop E all i o) q with
  |some r=>match drawPut fr.nt (dop E all i o) q r with
   |some q'=>drawRest E all ev fr T0 (planD E (befores all) rest (i+1)) q'
   |none=> .stuck
  |none=>panEnd E all ev fr T0 (dop E all i o) (planD E (befores all) rest (i+1)) q (panRun E all ev fr (dop E all i o) q))=_
 rw[h1]
 simp only[h2]
 exact h
theorem runN {n:Nat} {T:Tr AV} {news:News} {looked:Looked} {r:Touch×AV×St} (hT:Has l T) (hg:GuardOn all l o) (h:drawGo E (ev E n) fr (dop E all i o) ⟨T,st,news,looked⟩ (pickT T (tmpsOf o.op.operands.toList) .nil)=some r):
 drawRun E all (ev E n) fr (dop E all i o) ⟨T,st,news,looked⟩=some r:=by
 unfold drawRun
 rcases hg with hg|⟨g,hg,hw⟩
 ·have:(dop E all i o).o.guard=none:=hg
  rw[this];exact h
 ·have:(dop E all i o).o.guard=some g:=hg
  rw[this]
  show(wantedC all g T).bind _=_
  rw[hw T hT]
  exact h
theorem RegN.gen {KN:PN} {v:AV} {js':List Nat} (hq:quietSo (opC E o.type o.op)=true)
 (ho:∀(T:Tr AV) (news:News),(∀p∈news,p∈nl)→Has (restr (tmpsOf o.op.operands.toList) l) T→
  (i∈js'∨touchOf (opC E o.type o.op) T= .nothing)∧Alone E o fr T v (st.sub (subHeap (ancOf all i) news st.heap (touchOf (opC E o.type o.op) T))))
 (hjs:∀j∈js,j∈js') (hg:GuardOn all l o) (hd:o.dst=od) (hlt:dstOk fr.nt od=true) (h:RegN E KN all rest (i+1) fr (putL od v l) st js' nl K):RegN E KN all (o::rest) i fr l st js nl K:=by
 intro T0 T news looked hT hnw hlk hrd
 obtain⟨hj,N,hN⟩:=ho _ news hnw (hT.restr (tmpsOf o.op.operands.toList))
 let dd:DOp:=dop E all i o
 let q:DSt:=⟨T,st,news,looked⟩
 let TP:=pickT T (tmpsOf o.op.operands.toList) .nil
 let tch:=touchOf (opC E o.type o.op) TP
 let H:=subHeap dd.anc news st.heap tch
 let re:=reOf dd q (tch,v,st.sub H)
 obtain⟨M,ex,l',T',s',hk,hr⟩:=h T0 (putT od v T) news ((i,tch,re)::looked) (hT.putL od v) hnw (fun p hp=>by
  rcases Qk.1 hp with rfl|hp
  ·exact hj
  ·exact(hlk p hp).imp (hjs _) id) hrd.cons
 refine⟨max N M,ex,l',T',s',hk,fun n hn=>?_⟩
 have hgo:drawGo E (ev E n) fr dd q TP=some (tch,v,st.sub H):=by
  unfold drawGo
  have:quietSo dd.so=true:=hq
  rw[this]
  simp only[cond_true]
  show drawGot tch ((stepC E (opC E o.type o.op) K0).run (ev E n) fr TP (st.sub H))=_
  have h1:(stepC E (opC E o.type o.op) K0).run (ev E n) fr TP (st.sub H)= .one ⟨.normal,fr,oneT v,st.sub H⟩:=hN n (by omega)
  rw[h1];rfl
 have hp:=Fk (nt:=fr.nt) (d:=dd) (q:=q) (tch:=tch) (v:=v) (H:=H) (od:=od) hd hlt
 exact Fj (runN hT hg hgo) hp (hr n (by omega))
theorem RegN.off {KN:PN} {g:Nat×Bool} (hg:o.guard=some g) (hw:∀T,Has l T→wantedC all g T=some false) (hd:o.dst=od) (hlt:dstOk fr.nt od=true)
 (h:RegN E KN all rest (i+1) fr (putL od (.tuple []) l) st js nl K):RegN E KN all (o::rest) i fr l st js nl K:=by
 intro T0 T news looked hT hnw hlk hrd
 let dd:DOp:=dop E all i o
 let q:DSt:=⟨T,st,news,looked⟩
 let re:=reOf dd q (.nothing,.tuple [],st.sub .nil)
 obtain⟨M,ex,l',T',s',hk,hr⟩:=h T0 (putT od (.tuple []) T) news ((i,.nothing,re)::looked) (hT.putL od _) hnw (fun p hp=>by
  rcases Qk.1 hp with rfl|hp
  ·exact .inr U
  ·exact hlk p hp) hrd.cons
 refine⟨M,ex,l',T',s',hk,fun n hn=>?_⟩
 have hrun:drawRun E all (ev E n) fr dd q=some (.nothing,.tuple [],st.sub .nil):=by
  unfold drawRun
  have:dd.o.guard=some g:=hg
  rw[this]
  show(wantedC all g T).bind _=_
  rw[hw T hT];rfl
 have hp:=Fk (nt:=fr.nt) (d:=dd) (q:=q) (tch:= .nothing) (v:= .tuple []) (H:= .nil) (od:=od) hd hlt
 exact Fj hrun hp (hr n (by omega))
theorem RegN.skip {KN:PN} {j e:Nat} {w b:Bool} {oj:Oper} (hg:o.guard=some (j,w)) (hj:nth all j=some oj) (he:oj.dst=some e) (hl:look e l=some (.bool b)) (hb:b= !w)
 (hd:o.dst=od) (hlt:dstOk fr.nt od=true) (h:RegN E KN all rest (i+1) fr (putL od (.tuple []) l) st js nl K):RegN E KN all (o::rest) i fr l st js nl K:=
 RegN.off hg (fun T hT=>by rw[wanted_go (g:=(j,w)) hj he (hT e _ hl),hb];cases w<;>rfl) hd hlt h
theorem RegN.skipT {KN:PN} {j e:Nat} {w:Bool} {oj:Oper} (hg:o.guard=some (j,w)) (hj:nth all j=some oj) (he:oj.dst=some e) (hl:look e l=some (.tuple []))
 (hd:o.dst=od) (hlt:dstOk fr.nt od=true) (h:RegN E KN all rest (i+1) fr (putL od (.tuple []) l) st js nl K):RegN E KN all (o::rest) i fr l st js nl K:=
 RegN.off hg (fun T hT=>by
  unfold wantedC yieldedP
  simp only[hj,Qe,he]
  show wantedV w (T.get e)=_
  rw[hT e _ hl];rfl) hd hlt h
theorem En {KN:PN} {j e:Nat} {w b:Bool} {oj:Oper} (_hg:o.guard=some (j,w)) (_hj:nth all j=some oj) (_he:oj.dst=some e) (_hl:look e l=some (.bool b))
 (h1:b=true→RegN E KN all (o::rest) i fr l st js nl K) (h0:b=false→RegN E KN all (o::rest) i fr l st js nl K):RegN E KN all (o::rest) i fr l st js nl K:=by
 cases b
 ·exact h0 U
 ·exact h1 U
theorem RegN.qG {KN:PN} {v:AV} (ho:OpQ E o (restr (tmpsOf o.op.operands.toList) l) v) (hg:GuardOn all l o) (hd:o.dst=od) (hlt:dstOk fr.nt od=true) (h:RegN E KN all rest (i+1) fr (putL od v l) st js nl K):RegN E KN all (o::rest) i fr l st js nl K:=
 RegN.gen ho.1 (fun T _ _ hT=>⟨.inr (ho.2 T hT).1,alone_of ⟨0,fun n _ k=>(ho.2 T hT).2 (ev E n) fr _ k⟩⟩) (fun _ h=>h) hg hd hlt h
theorem RegN.q {KN:PN} {v:AV} (ho:OpQ E o (restr (tmpsOf o.op.operands.toList) l) v) (hg:o.guard=none) (hd:o.dst=od) (hlt:dstOk fr.nt od=true) (h:RegN E KN all rest (i+1) fr (putL od v l) st js nl K):RegN E KN all (o::rest) i fr l st js nl K:=
 RegN.qG ho (.inl hg) hd hlt h
theorem Et {KN:PN} {v:AV} (ho:OpA E o fr (restr (tmpsOf o.op.operands.toList) l) v) (hg:GuardOn all l o) (hd:o.dst=od) (hlt:dstOk fr.nt od=true) (h:RegN E KN all rest (i+1) fr (putL od v l) st (i::js) nl K):RegN E KN all (o::rest) i fr l st js nl K:=
 RegN.gen ho.1 (fun T _ _ hT=>⟨.inl (Qh ..),alone_of (by
  obtain⟨N,hN⟩:=ho.2 T hT
  exact⟨N,fun n hn k=>hN n hn _ k⟩)⟩) (fun _ h=>Qg _ h) hg hd hlt h
def clearB (anc b:Nat) (nl:News):Bool:=nl.all fun p=> !(Nat.beq p.2 b)||Nat.testBit anc p.1
theorem DG {anc b:Nat} (h:clearB anc b nl=true):∀ {news:News},(∀p∈news,p∈nl)→hiddenB anc b news=false
 | [],_=>rfl
 |p::news,hn=>by
  unfold hiddenB
  have h1:=List.all_eq_true.1 h p (hn p (Qh ..))
  rw[DG h (fun q hq=>hn q (Qg _ hq))]
  cases hb:Nat.beq p.2 b with
  |false=>rfl
  |true=>
   rw[hb]at h1
   have h2:Nat.testBit anc p.1=true:=h1
   rw[h2];rfl
theorem RegN.rd {KN:PN} {x:Tr AV→Option AV} {f:Tr AV→St→Option AV} {v p:AV} {b:Nat} (hop:opC E o.type o.op= .read x f) (hx:∀T,Has (restr (tmpsOf o.op.operands.toList) l) T→x T=some p) (hp:blockOf (some p)=some b)
 (hv:∀T,Has (restr (tmpsOf o.op.operands.toList) l) T→f T (st.sub (Tr.set .nil b (st.heap.get b)))=some v) (hc:clearB (ancOf all i) b nl=true) (hg:GuardOn all l o) (hd:o.dst=od) (hlt:dstOk fr.nt od=true)
 (h:RegN E KN all rest (i+1) fr (putL od v l) st (i::js) nl K):RegN E KN all (o::rest) i fr l st js nl K:=by
 refine RegN.gen (by rw[hop];rfl) (fun T news hnw hT=>⟨.inl (Qh ..),?_⟩) (fun _ h=>Qg _ h) hg hd hlt h
 rw[hop]
 have:touchOf (.read x f) T= .block b:=by
  show touchB (blockOf (x T))=_
  rw[hx T hT,hp];rfl
 rw[this]
 have hs:subHeap (ancOf all i) news st.heap (.block b)=Tr.set .nil b (st.heap.get b):=by
  show(bif hiddenB (ancOf all i) b news then _ else _)=_
  rw[DG hc hnw];rfl
 rw[hs]
 exact alone_of ⟨0,fun n _ k=>by
  rw[hop]
  show valOut (fun v=>k.run (ev E n) fr T v _) (f T _)=_
  rw[hv T hT];rfl⟩
theorem readAt_block {n b off:Nat} {s s':St} (hs:s'.heap.get b=s.heap.get b):readAt s' n (.ptr b off)=readAt s n (.ptr b off):=by
 unfold readAt
 simp only[hs]
theorem loadC_block {t:TypeId} {b off:Nat} {s s':St} (hs:s'.heap.get b=s.heap.get b):loadC E t s' (.ptr b off)=loadC E t s (.ptr b off):=by
 unfold loadC
 cases isAgg E t with
 |none=>rfl
 |some g=>
  cases sizeOf E t with
  |none=>cases g<;>rfl
  |some n=>
   cases g
   ·show(readAt s' 1 _).bind _=(readAt s 1 _).bind _
    rw[readAt_block hs]
   ·show(readAt s' n _).bind _=(readAt s n _).bind _
    rw[readAt_block hs]
theorem Bz {KN:PN} {t:TypeId} {a:Operand} {v:AV} {b off:Nat} (ho:o.op= .load t a) (ha:opndL a (restr (tmpsOf o.op.operands.toList) l)=some (.ptr b off))
 (hv:loadC E t st (.ptr b off)=some v) (hc:clearB (ancOf all i) b nl=true) (hg:GuardOn all l o) (hd:o.dst=od) (hlt:dstOk fr.nt od=true) (h:RegN E KN all rest (i+1) fr (putL od v l) st (i::js) nl K):RegN E KN all (o::rest) i fr l st js nl K:=
 RegN.rd (x:=opnd E a) (f:=fun T s=>(opnd E a T).bind (loadC E t s)) (b:=b) (by rw[ho];rfl) (fun T hT=>Au hT ha) rfl (fun T hT=>by
  rw[Au hT ha]
  exact(loadC_block (by show(Tr.set .nil b (st.heap.get b)).get b=_;rw[AW,if_pos rfl])).trans hv) hc hg hd hlt h
theorem RegN.make {KN:PN} {f:Tr AV→Option Mk} {ob:AObj} {g:Nat→AV} (hop:opC E o.type o.op= .make f) (hv:∀T,Has (restr (tmpsOf o.op.operands.toList) l) T→f T=some (.obj ob g)) (hg:GuardOn all l o) (hd:o.dst=od) (hlt:dstOk fr.nt od=true)
 (h:RegN E KN all rest (i+1) fr (putL od (g st.next) l) (st.alloc ob) js ((i,st.next)::nl) K):RegN E KN all (o::rest) i fr l st js nl K:=by
 intro T0 T news looked hT hnw hlk hrd
 let dd:DOp:=dop E all i o
 let q:DSt:=⟨T,st,news,looked⟩
 let TP:=pickT T (tmpsOf o.op.operands.toList) .nil
 let s2:St:=(st.sub .nil).alloc ob
 let re:=reOf dd q (.nothing,g st.next,s2)
 obtain⟨M,ex,l',T',s',hk,hr⟩:=h T0 (putT od (g st.next) T) ((i,st.next)::news) ((i,.nothing,re)::looked) (hT.putL od _) (fun p hp=>by
  rcases Qk.1 hp with rfl|hp
  ·exact Qh ..
  ·exact Qg _ (hnw p hp)) (fun p hp=>by
  rcases Qk.1 hp with rfl|hp
  ·exact .inr U
  ·exact hlk p hp) hrd.cons
 refine⟨M,ex,l',T',s',hk,fun n hn=>?_⟩
 have hgo:drawGo E (ev E n) fr dd q TP=some (.nothing,g st.next,s2):=by
  unfold drawGo
  have hso:dd.so= .make f:=hop
  have hqs:quietSo dd.so=true:=by rw[hso];rfl
  rw[hqs]
  simp only[cond_true]
  have htch:touchOf dd.so TP= .nothing:=by rw[hso];rfl
  rw[htch]
  have hst:(stepC E (opC E o.type o.op) K0).run (ev E n) fr TP (st.sub .nil)=K0.run (ev E n) fr TP (g (st.sub .nil).next) ((st.sub .nil).alloc ob):=by
   rw[hop]
   show mkOut _ _ (f TP)=_
   rw[hv TP (hT.restr (tmpsOf o.op.operands.toList))];rfl
  show drawGot .nothing ((stepC E (opC E o.type o.op) K0).run (ev E n) fr TP (st.sub .nil))=_
  rw[hst];rfl
 have hput:drawPut fr.nt dd q (.nothing,g st.next,s2)=some ⟨putT od (g st.next) T,st.alloc ob,(i,st.next)::news,(i,.nothing,re)::looked⟩:=by
  unfold drawPut
  have h1:Nat.ble q.st.next s2.next=true:=Qd (Nat.le_succ _)
  have h3:dd.o.dst=od:=hd
  have h4:newL q.st.next (s2.next-q.st.next)=[st.next]:=by
   show newL st.next (st.next+1-st.next)=_
   rw[Nat.add_sub_cancel_left];rfl
  have h5:s2.heap.get st.next=some ob:=by
   show(Tr.set .nil st.next (some ob)).get st.next=_
   rw[AW,if_pos rfl]
  have h6:s2.log=[]:=rfl
  simp only[h1,h6,mayWrite,h3,Bool.and_self,cond_true,putC_ok hlt,Qe,h4,tagL,copyAll,h5,below]
  rfl
 exact Fj (runN hT hg hgo) hput (hr n (by omega))
theorem tagL_mono {i:Nat} {p:Nat×Nat}:∀ {L:List Nat} {news:News},(∀p∈news,p∈nl)→p∈tagL i news L→p∈tagL i nl L
 | [],_,hn,h=>hn _ h
 |b::L,news,hn,h=>by
  rcases Qk.1 h with rfl|h
  ·exact Qh ..
  ·exact Qg _ (tagL_mono hn h)
def seenB (anc:Nat) (js:List Nat):Bool:=js.all fun j=>Nat.testBit anc j
theorem free_seen {anc b n:Nat} {ob:Option AObj} (hjs:seenB anc js=true):∀ {L:Looked},(∀p∈L,p.1∈js∨p.2.1= .nothing)→freeOf anc b n ob L=true
 | [],_=>rfl
 |p::L,hL=>by
  unfold freeOf
  have ih:=free_seen (b:=b) (n:=n) (ob:=ob) hjs fun q hq=>hL q (Qg _ hq)
  rcases hL p (Qh ..)with h1|h1
  ·have:Nat.testBit anc p.1=true:=List.all_eq_true.1 hjs _ h1
   rw[this];exact ih
  ·rw[h1]
   simp only[hitB,cond_false]
   cases Nat.testBit anc p.1<;>exact ih
theorem RegN.acts {KN:PN} {x:Tr AV→Option AV} {f:Tr AV→St→Option (AV×St)} {v:AV} {s2:St} {one:Bool} {tch:Touch} {H:Tr AObj} (hop:opC E o.type o.op= .act one x f)
 (htch:∀T,Has (restr (tmpsOf o.op.operands.toList) l) T→touchOf (.act one x f) T=tch) (hH:∀news:News,(∀p∈news,p∈nl)→subHeap (ancOf all i) news st.heap tch=H)
 (ho:OpL E o fr (restr (tmpsOf o.op.operands.toList) l) (st.sub H) v s2)
 (hnx:st.next≤s2.next) (hlog:∀b∈s2.log,b<st.next∧clearB (ancOf all i) b nl=true) (hjs:seenB (ancOf all i) js=true)
 (hg:GuardOn all l o) (hd:o.dst=od) (hlt:dstOk fr.nt od=true)
 (h:RegN E KN all rest (i+1) fr (putL od v l) (st.merged s2) (i::js) (tagL i (tagL i nl (newL st.next (s2.next-st.next))) s2.log) K):RegN E KN all (o::rest) i fr l st js nl K:=by
 intro T0 T news looked hT hnw hlk hrd
 obtain⟨N,hN⟩:=ho _ (hT.restr (tmpsOf o.op.operands.toList))
 let dd:DOp:=dop E all i o
 let q:DSt:=⟨T,st,news,looked⟩
 let TP:=pickT T (tmpsOf o.op.operands.toList) .nil
 let re:=reOf dd q (tch,v,s2)
 have hanc:dd.anc=ancOf all i:=rfl
 obtain⟨M,ex,l',T',s',hk,hr⟩:=h T0 (putT od v T) (tagL i (tagL i news (newL st.next (s2.next-st.next))) s2.log) ((i,tch,re)::looked) (hT.putL od v)
  (fun p hp=>tagL_mono (fun p hp=>tagL_mono hnw hp) hp) (fun p hp=>by
  rcases Qk.1 hp with rfl|hp
  ·exact .inl (Qh ..)
  ·exact(hlk p hp).imp (Qg _) id) hrd.cons
 refine⟨max N M,ex,l',T',s',hk,fun n hn=>?_⟩
 have hgo:drawGo E (ev E n) fr dd q TP=some (tch,v,s2):=by
  unfold drawGo
  have hso:dd.so= .act one x f:=hop
  have hqs:quietSo dd.so=true:=by rw[hso];rfl
  rw[hqs]
  simp only[cond_true]
  have ht:touchOf dd.so TP=tch:=by rw[hso];exact htch _ (hT.restr _)
  rw[ht]
  have hst:=hN n (by omega) K0
  show drawGot tch ((stepC E (opC E o.type o.op) K0).run (ev E n) fr TP (st.sub (subHeap dd.anc news st.heap tch)))=_
  rw[hanc,hH news hnw,hst];rfl
 have hmay:∀L:List Nat,(∀b∈L,b<st.next∧clearB (ancOf all i) b nl=true)→mayWrite dd.anc st.next s2.next s2.heap q L=true:=by
  intro L
  induction L with
  |nil=>intro _;rfl
  |cons b L ih=>
   intro hL
   unfold mayWrite
   have h1:Nat.blt b st.next=true:=by simpa[Nat.blt_eq]using(hL b (Qh ..)).1
   have h2:hiddenB dd.anc b q.news=false:=DG (hL b (Qh ..)).2 hnw
   have h3:freeOf dd.anc b s2.next (s2.heap.get b) q.looked=true:=free_seen hjs hlk
   rw[h1,h2,h3,ih fun c hc=>hL c (Qg _ hc)]
   rfl
 have hput:drawPut fr.nt dd q (tch,v,s2)=some ⟨putT od v T,st.merged s2,tagL i (tagL i news (newL st.next (s2.next-st.next))) s2.log,(i,tch,re)::looked⟩:=by
  unfold drawPut
  have h1:Nat.ble q.st.next s2.next=true:=Qd hnx
  have h2:mayWrite dd.anc q.st.next s2.next s2.heap q s2.log=true:=hmay s2.log hlog
  have h3:dd.o.dst=od:=hd
  simp only[h1,h2,h3,Bool.and_self,cond_true,putC_ok hlt,Qe]
  rfl
 exact Fj (runN hT hg hgo) hput (hr n (by omega))
theorem hide_clear {anc:Nat} (h:(nl.all fun p=>Nat.testBit anc p.1)=true) {news:News} {hp:Tr AObj} (hn:∀p∈news,p∈nl):hideAll anc news hp=hp:=
 hide_none fun p hp=>List.all_eq_true.1 h p (hn p hp)
theorem RegN.act {KN:PN} {x:Tr AV→Option AV} {f:Tr AV→St→Option (AV×St)} {v:AV} {s2:St} (hop:opC E o.type o.op= .act false x f) (ho:OpL E o fr (restr (tmpsOf o.op.operands.toList) l) (st.sub st.heap) v s2)
 (hnx:st.next≤s2.next) (hlog:∀b∈s2.log,b<st.next∧clearB (ancOf all i) b nl=true) (hjs:seenB (ancOf all i) js=true) (hnl:(nl.all fun p=>Nat.testBit (ancOf all i) p.1)=true)
 (hg:GuardOn all l o) (hd:o.dst=od) (hlt:dstOk fr.nt od=true)
 (h:RegN E KN all rest (i+1) fr (putL od v l) (st.merged s2) (i::js) (tagL i (tagL i nl (newL st.next (s2.next-st.next))) s2.log) K):RegN E KN all (o::rest) i fr l st js nl K:=
 RegN.acts (tch:= .all) hop (fun _ _=>rfl) (fun _ hn=>hide_clear hnl hn) ho hnx hlog hjs hg hd hlt h
end
section
variable {E : Env} {fr : Fr} {l : Sl} {s : St} {o : Oper}
theorem DC {t:TypeId} {x:Operand} {v:AV} (ho:o.op= .makeInterface t x) (hi:isIfaceT E t=some false) (hx:opndL x l=some v):OpQ E o l (.iface t v):=
 AO (f:=fun T=>(opnd E x T).bind fun v=>some (.iface t v)) (by
  rw[ho]
  show makeIfaceC E t x=_
  unfold makeIfaceC
  rw[hi]) fun T hT=>by simp only[Au hT hx,Qe]
noncomputable def isStructT (E:Env) (t:TypeId):Bool:=match und E t with
 |some (.struct _)=>true
 |_=>false
def eqOp (neg:Bool):BinOp:=bif neg then .neq else .eql
theorem binC_eq {neg:Bool} {t:TypeId} {x y:Operand} (h1:∀k,und E t≠some (.int k)) (h2:und E t≠some .string):binC E (eqOp neg) t x y=eqC E neg t x y:=by
 unfold binC
 split
 ·next k h=>exact absurd h (h1 k)
 ·next h=>exact absurd h h2
 ·cases neg<;>rfl
theorem iface_of {t:TypeId} (h:isIfaceT E t=some true):∃ms,und E t=some (.interface ms):=by
 unfold isIfaceT at h
 split at h
 ·next ms hm=>exact⟨ms,hm⟩
 ·cases h
 ·cases h
theorem struct_of {t:TypeId} (h:isStructT E t=true):∃fs,und E t=some (.struct fs):=by
 unfold isStructT at h
 split at h
 ·next fs hm=>exact⟨fs,hm⟩
 ·cases h
theorem E2 {neg:Bool} {t yt:TypeId} {x y:Operand} {a b v:AV} (ho:o.op= .binOp (eqOp neg) t x y yt) (hu:isIfaceT E t=some true) (hx:opndL x l=some a) (hy:opndL y l=some b)
 (hv:boolV neg (eqIface E (isConst x||isConst y) a b)=some v):OpQ E o l v:=by
 obtain⟨ms,hu⟩:=iface_of hu
 exact AO (f:=fun T=>(opnd E x T).bind fun a=>(opnd E y T).bind fun b=>boolV neg (eqIface E (isConst x||isConst y) a b)) (by
  rw[ho]
  show binC E (eqOp neg) t x y=_
  rw[binC_eq (by rw[hu];intro k h;cases h) (by rw[hu];intro h;cases h)]
  unfold eqC
  rw[hu];rfl) fun T hT=>by simp only[Au hT hx,Au hT hy,Qe,hv]
theorem DM {neg:Bool} {t yt:TypeId} {x y:Operand} {kd:Kd} {a b v:AV} (ho:o.op= .binOp (eqOp neg) t x y yt) (hu:isStructT E t=true) (hk:kdOf E t=some kd) (hx:opndL x l=some a) (hy:opndL y l=some b)
 (hv:boolV neg (eqKd kd a b)=some v):OpQ E o l v:=by
 obtain⟨fs,hu⟩:=struct_of hu
 exact AO (f:=fun T=>(opnd E x T).bind fun a=>(opnd E y T).bind fun b=>boolV neg (eqKd kd a b)) (by
  rw[ho]
  show binC E (eqOp neg) t x y=_
  rw[binC_eq (by rw[hu];intro k h;cases h) (by rw[hu];intro h;cases h)]
  unfold eqC
  rw[hu]
  simp only[hk];rfl) fun T hT=>by simp only[Au hT hx,Au hT hy,Qe,hv]
theorem EL {t yt:TypeId} {x y:Operand} {a b:Int} (ho:o.op= .binOp .sub t x y yt) (hu:und E t=some (.int .i64)) (hx:opndL x l=some (.int .i64 a)) (hy:opndL y l=some (.int .i64 b))
 (h: -9223372036854775808≤a-b∧a-b<9223372036854775808):OpQ E o l (.int .i64 (a-b)):=OpQ.int2 ho hu rfl hx hy (by rw[wrapI_in h.1 h.2])
theorem DV {t yt:TypeId} {x y:Operand} {a b:Nat} (ho:o.op= .binOp .sub t x y yt) (hu:und E t=some (.int .i64)) (hx:opndL x l=some (.int .i64 (a:Nat))) (hy:opndL y l=some (.int .i64 (b:Nat)))
 (h:b≤a∧a<9223372036854775808):OpQ E o l (.int .i64 ((a-b:Nat):Int)):=by
 have:=EL (o:=o) (E:=E) (l:=l) ho hu hx hy (by omega)
 rwa[show(a:Int)-(b:Int)=((a-b:Nat):Int) by omega]at this
theorem OpQ.mul {t yt:TypeId} {x y:Operand} {a b:Int} (ho:o.op= .binOp .mul t x y yt) (hu:und E t=some (.int .i64)) (hx:opndL x l=some (.int .i64 a)) (hy:opndL y l=some (.int .i64 b))
 (h: -9223372036854775808≤a*b∧a*b<9223372036854775808):OpQ E o l (.int .i64 (a*b)):=OpQ.int2 ho hu rfl hx hy (by rw[wrapI_in h.1 h.2])
theorem OpQ.neg {t:TypeId} {x:Operand} {a:Int} (ho:o.op= .unOp .neg t x) (hx:opndL x l=some (.int .i64 a)) (h: -9223372036854775808<a∧a≤9223372036854775808):OpQ E o l (.int .i64 (-a)):=
 AO (f:=fun T=>(opnd E x T).bind (unV .neg)) (by rw[ho];rfl) fun T hT=>by
  simp only[Au hT hx,Qe,unV]
  rw[wrapI_in (by omega) (by omega),Int.zero_sub]
theorem dropN_ok {α:Type}:∀ {a:Nat} {l:List α},a≤l.length→dropN a l=some (l.drop a)
 |0,_,_=>rfl
 |_+1,[],h=>by simp at h
 |a+1,_::l,h=>dropN_ok (a:=a) (l:=l) (by simpa using h)
theorem Do {t e:TypeId} {x i:Operand} {n sz k:Nat} {ik:IntKind} {cs:List AV} {v:AV} (ho:o.op= .index t x i) (hu:und E t=some (.array n e)) (ha:isAgg E e=some false) (hs:sizeOf E e=some sz)
 (hx:opndL x l=some (.agg cs)) (hi:opndL i l=some (.int ik (k:Nat))) (hk:k<n) (hv:cs[k*sz]?=some v):OpQ E o l v:=
 AO (f:=fun T=>(opnd E i T).bind fun iv=>(natOf iv).bind fun k=>bif Nat.blt k n then(opnd E x T).bind (idxOneV sz k)else none) (by
  rw[ho]
  show indexC E t x i=_
  unfold indexC
  rw[hu]
  simp only[ha,hs]) fun T hT=>by
  have h1:natOf (.int ik (k:Nat))=some k:=rfl
  have h2:Nat.blt k n=true:=by simpa[Nat.blt_eq]using hk
  simp only[Au hT hx,Au hT hi,Qe,h1,h2,cond_true,idxOneV,EA,hv]
theorem A6 {t:TypeId} {x:Operand} {i off n:Nat} {agg:Bool} {cs:List AV} (ho:o.op= .fieldAddr t x i) (hf:fieldOf E t i=some (off,n+1,agg)) (hx:opndL x l=some (.iptr cs)) (hn:off≤cs.length):OpQ E o l (.iptr (cs.drop off)):=
 AO (f:=fun T=>(opnd E x T).bind (addrAdd off)) (by
  rw[ho]
  show fieldAddrC E t x i=_
  unfold fieldAddrC
  rw[hf]) fun T hT=>by simp only[Au hT hx,Qe,addrAdd,dropN_ok hn]
theorem OpQ.convInt {src dst:TypeId} {x:Operand} {j k kx:IntKind} {n:Int} (ho:o.op= .convert src dst x) (hs:und E src=some (.int j)) (hd:und E dst=some (.int k)) (hx:opndL x l=some (.int kx n)):OpQ E o l (wrapI k n):=
 AO (f:=fun T=>(opnd E x T).bind (intToV k)) (by
  rw[ho]
  show convC E src dst x=_
  unfold convC
  rw[hs,hd]) fun T hT=>by simp only[Au hT hx,Qe,intToV]
theorem Ef {t e:TypeId} {x:Operand} {lo hi:Option Operand} {cs:List AV} {n sz:Nat} {cl:Bool} {vlo vhi:Option AV} {a h:Nat} (ho:o.op= .slice t x lo hi none) (hu:und E t=some (.slice e)) (hs:sizeOf E e=some sz)
 (hx:opndL x l=some (.islice cs n sz cl)) (hlo:opndOL lo l=some vlo) (hhi:opndOL hi l=some vhi) (hh:boundsA n n vhi=some h) (ha:boundsA 0 h vlo=some a) (hn:a*sz+(h-a)*sz≤cs.length):
 OpQ E o l (.islice ((cs.drop (a*sz)).take ((h-a)*sz)) (h-a) sz cl):=
 OpQ.read (x:=opnd E x) (f:=fun T s=>(opnd E x T).bind fun a=>(opndOC E lo T).bind fun l=>(opndOC E hi T).bind fun h=>(opndOC E none T).bind fun m=>sliceSlV s sz l h m a) (by
  rw[ho]
  show sliceC E t x lo hi none=_
  unfold sliceC
  rw[hu]
  simp only[hs]) (fun T hT=>by rw[Au hT hx];rfl) fun T s hT=>by
  have hb:Nat.beq sz sz=true:=Nat.beq_refl sz
  have hm:opndOC E none T=some none:=rfl
  simp only[Au hT hx,Fm hT hlo,Fm hT hhi,hm,Qe,sliceSlV,hb,cond_true,isliceV3,isliceV,hh,ha]
  rw[cut_eq hn];rfl
theorem Bj {x:Operand} {t ty:TypeId} {ok:Bool} {z a v:AV} (ho:o.op= .typeAssert x ty t ok) (hi:isIfaceT E t=some false) (hz:zeroOf E t=some z) (hx:opndL x l=some a) (hv:assertT t ok z a=some v):OpQ E o l v:=
 AO (f:=fun T=>(opnd E x T).bind (assertT t ok z)) (by
  rw[ho]
  show assertC E x t ok=_
  unfold assertC
  unfold isIfaceT at hi
  rw[hz]
  cases hu:und E t with
  |none=>rw[hu]at hi;cases hi
  |some d=>
   rw[hu]at hi
   cases d<;>first|rfl|cases hi) fun T hT=>by simp only[Au hT hx,Qe,hv]
theorem OpL.invoke {c:Call} {r:Operand} {name:String} {t:TypeId} {v w:AV} {f:FuncId} {rc:Recv} {args:List AV} {rv:AV} (ho:o.op= .call c) (hc:c.callee= .invoke r name) (ha:opndsL c.args.toList l=some args) (hr:opndL r l=some (.iface t v))
 (hm:methodOf E t name=some (f,rc)) (hb:hasBody E f=true) (hv:recvV E s v rc=some rv) (h:CallTo E f (rv::args) s w):OpL E o fr l s w s:=fun T hT=>
 OpTo.call (F:=fun T s=>(opndsC E c.args.toList T).bind fun args=>(opnd E r T).bind (invokeV E s name args)) (by
  rw[ho]
  show callC E o.type c=_
  unfold callC
  rw[hc]) (by simp only[B8 hT ha,Au hT hr,Qe,invokeV,hm,hb,cond_true,hv]) h
theorem OpL.makeMap {t k e:TypeId} (ho:o.op= .makeMap t none) (hu:und E t=some (.map k e)):OpL E o fr l s (.map s.next) (s.alloc (.map [] 0)):=fun T _=>
 Fy (f:=fun _=>some (.obj (.map [] 0) .map)) (by
  rw[ho]
  show makeMapC E t none=_
  unfold makeMapC
  rw[hu]) rfl
theorem OpL.mapSet {t k e:TypeId} {kd:Kd} {m x y:Operand} {p a b:AV} {s':St} (ho:o.op= .mapUpdate t m x y∨o.op= .insert t m x y) (hu:und E t=some (.map k e)) (hk:kdOf E k=some kd) (hm:opndL m l=some p) (hx:opndL x l=some a) (hy:opndL y l=some b)
 (hs:mapSetV kd s a b p=some s'):OpL E o fr l s (.tuple []) s':=fun T hT=>
 OpTo.act (b:=true) (x:=opnd E m) (f:=fun T s=>(opnd E m T).bind fun a=>(opnd E x T).bind fun b=>(opnd E y T).bind fun c=>withU (mapSetV kd s b c a)) (by
  have:opC E o.type o.op=mapSetC E t m x y:=by rcases ho with ho|ho<;>rw[ho]<;>rfl
  rw[this]
  unfold mapSetC
  rw[hu]
  simp only[hk]) (by simp only[Au hT hm,Au hT hx,Au hT hy,Qe,hs,withU])
theorem OpL.lookup {t k e:TypeId} {kd:Kd} {x i:Operand} {ok:Bool} {z p a v:AV} (ho:o.op= .lookup t x i ok) (hu:und E t=some (.map k e)) (hz:zeroOf E e=some z) (hk:kdOf E k=some kd) (hx:opndL x l=some p) (hi:opndL i l=some a)
 (hv:lookupV kd s ok z p a=some v):OpL E o fr l s v s:=fun T hT=>
 OpTo.read (x:=opnd E x) (f:=fun T s=>(opnd E x T).bind fun a=>(opnd E i T).bind fun b=>lookupV kd s ok z a b) (by
  rw[ho]
  show lookupC E t x i ok=_
  unfold lookupC
  rw[hu]
  simp only[hz,hk]) (by simp only[Au hT hx,Au hT hi,Qe,hv])
variable {st : St} {all rest : List Oper} {i : Nat} {js : List Nat} {nl : News} {K : Sl → St → Prop} {od : Option Nat}
end
noncomputable def specOf {α:Type} (enc:α→List AV) (res:α→AV) (args:List AV):Option AV:=by
 classical exact if h:∃a,enc a=args then some (res h.choose)else none
theorem specOf_hit {α:Type} {enc:α→List AV} {res:α→AV} (hw:∀a b,enc a=enc b→res a=res b) (a:α):specOf enc res (enc a)=some (res a):=by
 have h:∃b,enc b=enc a:=⟨a,rfl⟩
 unfold specOf
 rw[dif_pos h,hw _ _ h.choose_spec]
theorem specOf_some {α:Type} {enc:α→List AV} {res:α→AV} {args:List AV} {v:AV} (h:specOf enc res args=some v):∃a,enc a=args∧res a=v:=by
 unfold specOf at h
 split at h
 ·next he=>cases h;exact⟨_,he.choose_spec,rfl⟩
 ·cases h
theorem specOf_none {α:Type} {enc:α→List AV} {res:α→AV} {args:List AV} (h:∀a,enc a≠args):specOf enc res args=none:=by
 unfold specOf
 rw[dif_neg]
 rintro⟨a,ha⟩
 exact h a ha
noncomputable def addC {α:Type} (K:FuncId→List AV→Option AV) (f:FuncId) (enc:α→List AV) (res:α→AV):FuncId→List AV→Option AV:=fun g args=>bif Nat.beq g f then specOf enc res args else K g args
theorem A2 {α:Type} {K:FuncId→List AV→Option AV} {f:FuncId} {enc:α→List AV} {res:α→AV} (hw:∀a b,enc a=enc b→res a=res b) (a:α):addC K f enc res f (enc a)=some (res a):=by
 unfold addC
 rw[Nat.beq_refl]
 exact specOf_hit hw a
theorem addC_none {α:Type} {K:FuncId→List AV→Option AV} {f:FuncId} {enc:α→List AV} {res:α→AV} {args:List AV} (h:∀a,enc a≠args):addC K f enc res f args=none:=by
 unfold addC
 rw[Nat.beq_refl]
 exact specOf_none h
theorem BH {α:Type} {P:Program} {K:FuncId→List AV→Option AV} {f:FuncId} {enc:α→List AV} {res:α→AV} (hK:KnownAll P K) (h:∀a,KnownF P f (enc a) (res a)):KnownAll P (addC K f enc res):=by
 intro g args v hv
 unfold addC at hv
 cases hb:Nat.beq g f with
 |false=>rw[hb]at hv;exact hK g args v hv
 |true=>
  rw[hb]at hv
  have:=Qb hb
  subst this
  obtain⟨a,rfl,rfl⟩:=specOf_some hv
  exact h a
theorem Db {α:Type} {P:Program} {nt nf mask:Nat} {K:FuncId→List AV→Option AV} {f:FuncId} {enc:α→List AV} {res:α→AV} (hp:ProgOk P nt nf) (hK:KnownAll P K) (h:∀a,CallTo (envK P nt nf mask K) f (enc a) S0 (res a))
 (ha:∀a,(enc a).all (closedV 40)=true) (hv:∀a,closedV 40 (res a)=true):KnownAll P (addC K f enc res):=
 BH hK fun a=>DQ hp hK (h a) (ha a) (hv a)
abbrev Hl:=List (Nat×Option AObj)
def lookH:Nat→Hl→Option AObj
 |_,[]=>none
 |k,p::l=>bif Nat.beq k p.1 then p.2 else lookH k l
noncomputable def mkH:Hl→Tr AObj
 | []=> .nil
 |p::l=>(mkH l).set p.1 p.2
noncomputable def mkS (n bd:Nat) (lg:List Nat) (hl:Hl):St:= {next:=n,bound:=bd,log:=lg,heap:=mkH hl}
theorem get_mkH (k:Nat):∀hl:Hl,(mkH hl).get k=lookH k hl
 | []=>Br k
 |p::l=>by
  show((mkH l).set p.1 p.2).get k=bif Nat.beq k p.1 then p.2 else lookH k l
  rw[AW,get_mkH k l]
  cases hb:Nat.beq k p.1 with
  |true=>rw[if_pos (Qb hb)];rfl
  |false=>rw[if_neg (Nat.ne_of_beq_eq_false hb)];rfl
theorem Dx {n bd:Nat} {lg:List Nat} {hl:Hl} (k:Nat):(mkS n bd lg hl).heap.get k=lookH k hl:=get_mkH k hl
def logB (b bd:Nat) (lg:List Nat):List Nat:=bif Nat.blt b bd then logged b lg else lg
section
variable {E : Env} {fr : Fr} {l : Sl} {o : Oper} {n m bd : Nat} {lg : List Nat} {hl : Hl}
theorem AE {t:TypeId} {z:AV} (m:Nat) (ho:o.op= .alloc t) (hz:zeroOf E t=some z) (hm:n+1=m):OpL E o fr l (mkS n bd lg hl) (.ptr n 0) (mkS m bd lg ((n,some (.cells z.cells t false))::hl)):=by
 subst hm
 exact BI ho hz
theorem AD {t:TypeId} {x:Operand} {v:AV} (m:Nat) (ho:o.op= .box t x) (hx:opndL x l=some v) (hv:v.isTuple=false) (hm:n+1=m):OpL E o fr l (mkS n bd lg hl) (.ptr n 0) (mkS m bd lg ((n,some (.cells v.cells t false))::hl)):=by
 subst hm
 exact OpL.box ho hx hv
theorem A4 {t:TypeId} {a x:Operand} {k b off:Nat} {v:AV} {cs cs':List AV} {e:TypeId} {part:Bool} (ho:o.op= .store t a x) (hn:sizeOf E t=some k) (ha:opndL a l=some (.ptr b off)) (hx:opndL x l=some v)
 (hg:lookH b hl=some (.cells cs e part)) (hk:v.cells.length=k) (ht:v.isTuple=false) (hc:over v.cells off cs=some cs'):OpL E o fr l (mkS n bd lg hl) (.tuple []) (mkS n bd (logB b bd lg) ((b,some (.cells cs' e part))::hl)):=
 Ar ho hn ha hx (Aq ((Dx b).trans hg) hk ht hc)
theorem OpL.loadS1 {t:TypeId} {a:Operand} {k b off:Nat} {v:AV} {cs:List AV} {e:TypeId} {part:Bool} (ho:o.op= .load t a) (h1:isAgg E t=some false) (h2:sizeOf E t=some k) (ha:opndL a l=some (.ptr b off))
 (hg:lookH b hl=some (.cells cs e part)) (hv:cs[off]?=some v):OpL E o fr l (mkS n bd lg hl) v (mkS n bd lg hl):=
 At ho ha (An h1 h2 ((Dx b).trans hg) hv)
theorem AM {t:TypeId} {a:Operand} {k b off:Nat} {cs:List AV} {e:TypeId} {part:Bool} (ho:o.op= .load t a) (h1:isAgg E t=some true) (h2:sizeOf E t=some k) (ha:opndL a l=some (.ptr b off))
 (hg:lookH b hl=some (.cells cs e part)) (hk:off+k≤cs.length):OpL E o fr l (mkS n bd lg hl) (.agg ((cs.drop off).take k)) (mkS n bd lg hl):=
 At ho ha (A8 h1 h2 ((Dx b).trans hg) hk)
theorem DW {t e:TypeId} {len sz:Nat} {parts:Array (Nat×Operand)} {z:AV} {ps:List (Nat×AV)} {cs:List AV} (m:Nat) (ho:o.op= .buildSlice t (len+1) parts) (hu:und E t=some (.slice e)) (hs:sizeOf E e=some sz) (hz:zeroOf E e=some z)
 (hk:(Nat.beq (len' z.cells) sz&&Nat.ble ((len+1)*sz) 16777216&& !(Nat.beq sz 0))=true) (hq:partsL parts.toList l=some ps) (hf:fillA (fun i=>some (i*sz,sz)) ps (repeatA z.cells (len+1))=some cs) (hm:n+1=m):
 OpL E o fr l (mkS n bd lg hl) (.slice n 0 (len+1) sz (some (len+1))) (mkS m bd lg ((n,some (.cells cs e false))::hl)):=by
 subst hm
 exact BA ho hu hs hz hk hq hf
theorem OpL.makeMapS {t k e:TypeId} (m:Nat) (ho:o.op= .makeMap t none) (hu:und E t=some (.map k e)) (hm:n+1=m):OpL E o fr l (mkS n bd lg hl) (.map n) (mkS m bd lg ((n,some (.map [] 0))::hl)):=by
 subst hm
 exact OpL.makeMap ho hu
theorem OpQ.strAdd {t yt:TypeId} {x y:Operand} {a b:List UInt8} (ho:o.op= .binOp .add t x y yt) (hu:und E t=some .string) (hx:opndL x l=some (.str a)) (hy:opndL y l=some (.str b)) (h:a.length+b.length≤4294967296):OpQ E o l (.str (a++b)):=
 AX ho hu rfl hx hy (by
  simp only[Ep]
  rw[Qd h];rfl)
theorem leave_s0 {f:FuncId} {v w:AV} {ks:List Nat} {st:St} (hf:E.frz f=1) (hlog:st.log=[]) (hb:st.bound=0) (h:frzV st 0 40 v []=some (w,ks)) (hu:underV 0 40 w=true):leave E f S0 v st=some (.same w):=by
 unfold leave frozen
 rw[hf,hlog]
 simp only
 show((frozenFrom 0 v st).bind _)=_
 unfold frozenFrom
 rw[h]
 simp only[Qe,leaveQ]
 have hk:(kill st ks).log=[]:=(kill_log (s:=st) (ks:=ks) fun b _=>by rw[hb];exact Qn _).trans hlog
 rw[hk]
 show some (bif underV 0 40 w then _ else _)=_
 rw[hu];rfl
theorem Ax {f:FuncId} {fn:Func} {c:Code} {args:List AV} {v:AV} {rs:List ResultVar} {fr:Fr} {l0:Sl} (hz:E.frz f=1) (hm:E.memo f args=none) (hf:E.fns.get f=some fn) (hc:fn.body=some c) (hr:fn.results.toList=rs)
 (hfr:frame fn.ntmps args none=fr) (hl:argsL 0 args []=l0)
 (h:EvtL E c fr l0 (mkS 0 0 [] []) fun ex fr l st=>(ex= .ret∨ex= .normal)∧fr.defers=[]∧st.log=[]∧st.bound=0∧∃vs w ks,resultsL E st l rs=some vs∧frzV st 0 40 (oneA vs) []=some (w,ks)∧underV 0 40 w=true∧w=v):CallTo E f args S0 v:=
 CallTo.gen hm hf hc hr hfr hl (EvtL.mono (s:=S0.enter) h fun ex fr l st ⟨h1,h2,h3,h4,vs,w,ks,h5,h6,h7,h8⟩=>⟨h1,st,by rw[h2];rfl,vs,h5,by rw[←h8];exact leave_s0 hz h3 h4 h6 h7⟩)
theorem Ej {a t k b:Nat} {rs:List ResultVar} {vs cs:List AV} {e:TypeId} {part:Bool} (hp:look a l=some (.ptr b 0)) (h1:isAgg E t=some true) (h2:sizeOf E t=some k) (hg:lookH b hl=some (.cells cs e part)) (hk:k≤cs.length)
 (h:resultsL E (mkS n bd lg hl) l rs=some vs):resultsL E (mkS n bd lg hl) l (.cell a t::rs)=some (.agg (cs.take k)::vs):=by
 have hv:loadC E t (mkS n bd lg hl) (.ptr b 0)=some (.agg ((cs.drop 0).take k)):=A8 h1 h2 ((Dx b).trans hg) (by omega)
 unfold resultsL
 rw[hp]
 simp only[Qe,hv,h]
 rfl
variable {all rest : List Oper} {i : Nat} {js : List Nat} {nl : News} {K : Sl → St → Prop} {od : Option Nat}
theorem AZ {KN:PN} {t:TypeId} {a:Operand} {k b off:Nat} {v:AV} {cs:List AV} {e:TypeId} {part:Bool} (ho:o.op= .load t a) (h1:isAgg E t=some false) (h2:sizeOf E t=some k) (ha:opndL a (restr (tmpsOf o.op.operands.toList) l)=some (.ptr b off))
 (hg:lookH b hl=some (.cells cs e part)) (hv:cs[off]?=some v) (hc:clearB (ancOf all i) b nl=true) (hgd:GuardOn all l o) (hd:o.dst=od) (hlt:dstOk fr.nt od=true)
 (h:RegN E KN all rest (i+1) fr (putL od v l) (mkS n bd lg hl) (i::js) nl K):RegN E KN all (o::rest) i fr l (mkS n bd lg hl) js nl K:=
 Bz ho ha (An h1 h2 ((Dx b).trans hg) hv) hc hgd hd hlt h
end
theorem OpQ.convI {E:Env} {o:Oper} {l:Sl} {src dst:TypeId} {x:Operand} {j kx:IntKind} {n:Int} (ho:o.op= .convert src dst x) (hs:und E src=some (.int j)) (hd:und E dst=some (.int .i64)) (hx:opndL x l=some (.int kx n)) (h: -9223372036854775808≤n∧n<9223372036854775808):OpQ E o l (.int .i64 n):=by
 have:=OpQ.convInt (E:=E) (l:=l) ho hs hd hx
 rwa[wrapI_in h.1 h.2]at this
theorem Ai {E:Env} {fr:Fr} {l:Sl} {s:St} {Q:Ex→Fr→Sl→St→Prop} {x:Operand} {a b:Code} {t:Bool} (hx:opndL x l=some (.bool t)) (ht:t=true) (h:EvtL E a fr l s Q):EvtL E (.cond x a b) fr l s Q:=
 EvtL.cond hx (fun _=>h) fun h0=>by rw[ht]at h0;cases h0
theorem Ap {E:Env} {fr:Fr} {l:Sl} {s:St} {Q:Ex→Fr→Sl→St→Prop} {x:Operand} {a b:Code} {t:Bool} (hx:opndL x l=some (.bool t)) (ht:t=false) (h:EvtL E b fr l s Q):EvtL E (.cond x a b) fr l s Q:=
 EvtL.cond hx (fun h0=>by rw[ht]at h0;cases h0) fun _=>h
theorem Bq {b:Bool} {x y:Prop} (hb:b=true) (h:x):cond b x y:=by subst hb;exact h
theorem nT {p:Prop} [Decidable p] (h:(!decide p)=true):¬p:=by simpa using h
theorem nF {p:Prop} [Decidable p] (h:(!decide p)=false):p:=by simpa using h
theorem bT {a b:List UInt8} (h:bytesEq a b=true):a=b:=of_decide_eq_true (Bn.symm.trans h)
theorem bF {a b:List UInt8} (h:bytesEq a b=false):a≠b:=of_decide_eq_false (Bn.symm.trans h)
theorem bnT {a b:List UInt8} (h:(!bytesEq a b)=true):a≠b:=bF (by simpa using h)
theorem bnF {a b:List UInt8} (h:(!bytesEq a b)=false):a=b:=bT (by simpa using h)
theorem Fo {b:Bool} (h:(!b)=true):b=false:=by simpa using h
theorem Fp {b:Bool} (h:(!b)=false):b=true:=by simpa using h
section
variable (E : Env)
def InlQ (f:FuncId) (rs:List ResultVar) (s0:St) (R:AV→St→Prop) (ex:Ex) (fr:Fr) (l:Sl) (st:St):Prop:=
 (ex= .ret∨ex= .normal)∧∃st',unwinds fr.defers st=some st'∧∃vs,resultsL E st' l rs=some vs∧∃cr,leave E f s0 (oneA vs) st'=some cr∧match cr with
  | .same v=>R v s0
  | .val v s'=>R v s'
  | .pan _ _=>False
def RunsX (f:FuncId) (args:List AV) (s:St) (R RP:AV→St→Prop):Prop:=
 ∃N cr,(∀n,N≤n→callF E (ev E n) f args s=some cr)∧match cr with
  | .same v=>R v s
  | .val v s'=>R v s'
  | .pan v s'=>RP v s'
def InlX (f:FuncId) (rs:List ResultVar) (s0:St) (R RP:AV→St→Prop) (ex:Ex) (fr:Fr) (l:Sl) (st:St):Prop:=match ex with
 | .panic v=>fr.defers=[]∧RP v (s0.back st)
 |ex=>InlQ E f rs s0 R ex fr l st
end
section
variable {E : Env} {fr fr' : Fr} {l l' : Sl} {o : Oper} {n m bd : Nat} {lg lg' : List Nat} {hl hl' : Hl} {all rest : List Oper} {K : Sl → St → Prop} {f : FuncId} {rs : List ResultVar} {R : AV → St → Prop} {ex : Ex}
theorem RunsV.toX {s:St} {args:List AV} {RP:AV→St→Prop} (h:RunsV E f args s R):RunsX E f args s R RP:=by
 obtain⟨N,cr,h1,h2⟩:=h
 refine⟨N,cr,h1,?_⟩
 cases cr with
 |same v=>exact h2
 |val v s'=>exact h2
 |pan v s'=>exact h2.elim
theorem RunsX.mono {s:St} {args:List AV} {RP R' RP':AV→St→Prop} (h:RunsX E f args s R RP) (h1:∀v s,R v s→R' v s) (h2:∀v s,RP v s→RP' v s):RunsX E f args s R' RP':=by
 obtain⟨N,cr,h0,h⟩:=h
 refine⟨N,cr,h0,?_⟩
 cases cr with
 |same v=>exact h1 _ _ h
 |val v s'=>exact h1 _ _ h
 |pan v s'=>exact h2 _ _ h
theorem RunsX.gen {s:St} {fn:Func} {c:Code} {args:List AV} {RP:AV→St→Prop} {fr0:Fr} {l0:Sl} (hm:E.memo f args=none) (hf:E.fns.get f=some fn) (hc:fn.body=some c) (hr:fn.results.toList=rs)
 (hfr:frame fn.ntmps args none=fr0) (hl:argsL 0 args []=l0) (h:EvtL E c fr0 l0 s.enter (InlX E f rs s R RP)):RunsX E f args s R RP:=by
 subst hfr hl hr
 obtain⟨N,ex,fr',l',T',s',hq,hT',hr'⟩:=h _ (EJ args 0 (Has.nil .nil))
 have key:∀ {m:Option AV} {st':St} {cr:CR},modeOf ex=some m→(∀n,unwind E (ev E n) fr'.defers m s'=some (m,st'))→endWith E f fn s T' m st'=some cr→∀n,N+1≤n→callF E (ev E n) f args s=some cr:=by
  intro m st' cr hmo hu he n hn
  obtain⟨k,rfl⟩:∃k,n=k+1:=⟨n-1,by omega⟩
  unfold callF
  rw[hm]
  simp only[hf,hc,Qe]
  rw[ev_succ,hr' k (by omega)]
  show endF E (ev E (k+1)) f fn s ⟨ex,fr',T',s'⟩=_
  unfold endF
  simp only[hmo,Qe,hu,he]
 have val:InlQ E f fn.results.toList s R ex fr' l' s'→RunsX E f args s R RP:=fun⟨hex,st',hu,vs,hvs,cr,hlv,hR⟩=>
  RunsV.toX ⟨N+1,cr,key (by rcases hex with h|h<;>rw[h]<;>rfl) (fun n=>unwinds_ok hu) (by simp only[endWith,D9 hT' hvs,Qe,hlv]),hR⟩
 cases ex with
 |panic v=>
  obtain⟨hd,hp⟩:=hq
  exact⟨N+1,.pan v (s.back s'),key U (fun n=>by rw[hd];rfl) U,hp⟩
 |normal=>exact val hq
 |ret=>exact val hq
 |exit i=>exact val hq
theorem RunsX.inl {fn:Func} {cb:Code} {args:List AV} {fr0:Fr} {l0:Sl} {RP:AV→St→Prop} (hm:E.memo f args=none) (hf:E.fns.get f=some fn) (hcb:fn.body=some cb) (hr:fn.results.toList=rs) (hfr:frame fn.ntmps args none=fr0) (hl0:argsL 0 args []=l0)
 (h:EvtL E cb fr0 l0 (mkS n n [] hl) (InlX E f rs (mkS n bd lg hl) R RP)):RunsX E f args (mkS n bd lg hl) R RP:=
 RunsX.gen hm hf hcb hr hfr hl0 h
theorem BP {s0 st:St} {RP:AV→St→Prop} (h:InlQ E f rs s0 R .ret fr l st):InlX E f rs s0 R RP .ret fr l st:=h
theorem RegL.opX {KP:AV→Sl→St→Prop} {s:St} {d:Nat} (hg:o.guard=none) (hd:o.dst=some d) (hlt:Nat.blt d fr.nt=true)
 (h:∀T,Has l T→(∃v s',OpTo E o fr T s v s'∧RegL E KP all rest fr ((d,v)::l) s' K)∨∃v s',KP v l s'∧∃N,∀n,N≤n→∀k:KCl,(stepC E (opC E o.type o.op) k).run (ev E n) fr T s= .one ⟨.panic v,fr,T,s'⟩):RegL E KP all (o::rest) fr l s K:=by
 intro T hT
 rcases h T hT with⟨v,s',ho,h⟩|⟨v,s',hk,N,hN⟩
 ·obtain⟨N,ho⟩:=ho
  obtain⟨M,ex,l',T',s2,hk,hT',hr⟩:=h _ (hT.put d v)
  refine⟨max N M,ex,l',T',s2,hk,hT',fun n hn=>?_⟩
  show(oneC E all o (thenK o.dst (runC E all rest))).run (ev E n) fr T s=_
  unfold oneC guarded
  rw[hg]
  simp only
  rw[ho n (by omega),Dz _ _ (by rw[hd];exact hlt),hd]
  exact hr n (by omega)
 ·refine⟨N,.panic v,l,T,s',hk,hT,fun n hn=>?_⟩
  show(oneC E all o (thenK o.dst (runC E all rest))).run (ev E n) fr T s=_
  unfold oneC guarded
  rw[hg]
  exact hN n hn _
theorem RegL.raise {KP:AV→Sl→St→Prop} {s:St} {x:Operand} {t:TypeId} {v:AV} (ho:o.op= .panic x) (hx:opndL x l=some (.iface t v)) (hg:o.guard=none) (h:KP (.iface t v) l s):RegL E KP all (o::rest) fr l s K:=by
 intro T hT
 refine⟨0,.panic (.iface t v),l,T,s,h,hT,fun n _=>?_⟩
 show(oneC E all o (thenK o.dst (runC E all rest))).run (ev E n) fr T s=_
 unfold oneC guarded
 rw[hg,ho]
 show valOut (fun v=> .one ⟨.panic v,fr,T,s⟩) ((opnd E x T).bind panicV)=_
 rw[Au hT hx];rfl
theorem RegL.runX {KP:AV→Sl→St→Prop} {s:St} {d:Nat} {F:Tr AV→St→Option (FuncId×List AV)} {g:FuncId} {args:List AV} (hop:opC E o.type o.op= .call F) (hF:∀T,Has l T→F T s=some (g,args)) (hg:o.guard=none) (hd:o.dst=some d) (hlt:Nat.blt d fr.nt=true)
 (h:RunsX E g args s (fun v s'=>RegL E KP all rest fr ((d,v)::l) s' K) fun v s'=>KP v l s'):RegL E KP all (o::rest) fr l s K:=by
 obtain⟨N,cr,hr,hm⟩:=h
 refine RegL.opX hg hd hlt fun T hT=>?_
 have key:∀n,N≤n→∀k:KCl,(stepC E (opC E o.type o.op) k).run (ev E n) fr T s=crOut fr T s (k.run (ev E n) fr T) (some cr):=fun n hn k=>by
  rw[hop]
  show crOut fr T s (k.run (ev E n) fr T) ((F T s).bind fun p=>callF E (ev E n) p.1 p.2 s)=_
  rw[hF T hT]
  simp only[Qe]
  rw[hr n hn]
 cases cr with
 |same v=>exact .inl ⟨v,s,⟨N,key⟩,hm⟩
 |val v s'=>exact .inl ⟨v,s',⟨N,key⟩,hm⟩
 |pan v s'=>exact .inr ⟨v,s',hm,N,key⟩
theorem RegL.runXW {KP:AV→Sl→St→Prop} {s:St} {d:Nat} {F:Tr AV→Option AV} {A:Tr AV→Option (List AV)} {g:FuncId} {first captured args:List AV} (hop:opC E o.type o.op= .callV F A) (hF:∀T,Has l T→F T=some (.func (.func g) first captured)) (hA:∀T,Has l T→A T=some args) (hb:hasBody E g=true)
 (hg:o.guard=none) (hd:o.dst=some d) (hlt:Nat.blt d fr.nt=true) (h:RunsX E g (first++args++captured) s (fun v s'=>RegL E KP all rest fr ((d,v)::l) s' K) fun v s'=>KP v l s'):RegL E KP all (o::rest) fr l s K:=by
 obtain⟨N,cr,hr,hm⟩:=h
 refine RegL.opX hg hd hlt fun T hT=>?_
 have key:∀n,N≤n→∀k:KCl,(stepC E (opC E o.type o.op) k).run (ev E n) fr T s=crOut fr T s (k.run (ev E n) fr T) (some cr):=fun n hn k=>by
  rw[hop]
  show crOut fr T s (k.run (ev E n) fr T) ((F T).bind fun g=>(A T).bind fun args=>callVF E (ev E n) args s g)=_
  rw[hF T hT,hA T hT]
  simp only[Qe,callVF,hb,cond_true]
  rw[hr n hn]
 cases cr with
 |same v=>exact .inl ⟨v,s,⟨N,key⟩,hm⟩
 |val v s'=>exact .inl ⟨v,s',⟨N,key⟩,hm⟩
 |pan v s'=>exact .inr ⟨v,s',hm,N,key⟩
theorem Ay {KP:AV→Sl→St→Prop} {s:St} {c:Call} {args:List AV} {d:Nat} (ho:o.op= .call c) (hc:c.callee= .value (.func f)) (hb:hasBody E f=true) (ha:opndsL c.args.toList l=some args) (hg:o.guard=none) (hd:o.dst=some d)
 (hlt:Nat.blt d fr.nt=true) (h:RunsX E f args s (fun v s'=>RegL E KP all rest fr ((d,v)::l) s' K) fun v s'=>KP v l s'):RegL E KP all (o::rest) fr l s K:=
 RegL.runX (F:=fun T _=>(opndsC E c.args.toList T).bind fun args=>some (f,args)) (by
  rw[ho]
  show callC E o.type c=_
  unfold callC
  rw[hc]
  simp only[hb,cond_true]) (fun T hT=>by rw[B8 hT ha];rfl) hg hd hlt h
theorem RegL.callXV {KP:AV→Sl→St→Prop} {s:St} {c:Call} {t:Nat} {first captured args xs:List AV} {d:Nat} (hb:hasBody E f=true) (ho:o.op= .call c) (hc:c.callee= .value (.tmp t)) (hv:look t l=some (.func (.func f) first captured)) (ha:opndsL c.args.toList l=some args) (hg:o.guard=none) (hd:o.dst=some d)
 (hlt:Nat.blt d fr.nt=true) (hx:first++args++captured=xs) (h:RunsX E f xs s (fun v s'=>RegL E KP all rest fr ((d,v)::l) s' K) fun v s'=>KP v l s'):RegL E KP all (o::rest) fr l s K:=by
 subst hx
 refine RegL.runXW (F:=opnd E (.tmp t)) (A:=opndsC E c.args.toList) ?_ (fun T hT=>hT t _ hv) (fun T hT=>B8 hT ha) hb hg hd hlt h
 rw[ho]
 show callC E o.type c=_
 unfold callC
 rw[hc]
theorem RunsX.unit {s:St} {fn:Func} {c:Code} {args:List AV} {RP:AV→St→Prop} {fr0:Fr} {l0:Sl} (hm:E.memo f args=none) (hf:E.fns.get f=some fn) (hc:fn.body=some c) (hr:fn.results.toList=[])
 (hfr:frame fn.ntmps args none=fr0) (hl:argsL 0 args []=l0) (h:EvtL E c fr0 l0 s.enter fun ex fr _ st=>match ex with
  | .panic v=>fr.defers=[]∧RP v (s.back st)
  |ex=>(ex= .ret∨ex= .normal)∧fr.defers=[]∧(st.log=[]→R (.tuple []) s)∧R (.tuple []) (s.back st)):RunsX E f args s R RP:=by
 refine RunsX.gen hm hf hc hr hfr hl (EvtL.mono h fun ex fr l st hq=>?_)
 have hfz:frozen E f s (.tuple []) st=some (.tuple [],st):=by
  unfold frozen frozenFrom
  split
  ·rfl
  ·split<;>rfl
  ·rfl
 have val:(ex= .ret∨ex= .normal)∧fr.defers=[]∧(st.log=[]→R (.tuple []) s)∧R (.tuple []) (s.back st)→InlQ E f [] s R ex fr l st:=fun⟨hex,hd,hR0,hR1⟩=>by
  refine⟨hex,st,by rw[hd];rfl,[],rfl,leaveQ s (.tuple []) st st.log,?_,?_⟩
  ·unfold leave
   show(frozen E f s (.tuple []) st).bind _=_
   rw[hfz];rfl
  ·unfold leaveQ
   cases hlog:st.log with
   |nil=>exact hR0 hlog
   |cons a b=>exact hR1
 cases ex with
 |panic v=>exact hq
 |normal=>exact val hq
 |ret=>exact val hq
 |exit i=>exact val hq
theorem EY {KP:AV→Sl→St→Prop} {c:Call} {args:List AV} {d:Nat} {fn:Func} {cb:Code} {fr0:Fr} {l0:Sl} (hf:E.fns.get f=some fn) (hb:hasBody E f=true) (ho:o.op= .call c) (hc:c.callee= .value (.func f)) (ha:opndsL c.args.toList l=some args) (hg:o.guard=none) (hd:o.dst=some d) (hlt:Nat.blt d fr.nt=true)
 (hm:E.memo f args=none) (hcb:fn.body=some cb) (hr:fn.results.toList=rs) (hfr:frame fn.ntmps args none=fr0) (hl0:argsL 0 args []=l0)
 (h:EvtL E cb fr0 l0 (mkS n n [] hl) (InlX E f rs (mkS n bd lg hl) (fun v s'=>RegL E KP all rest fr ((d,v)::l) s' K) fun v s'=>KP v l s')):RegL E KP all (o::rest) fr l (mkS n bd lg hl) K:=
 Ay ho hc hb ha hg hd hlt (RunsX.inl hm hf hcb hr hfr hl0 h)
theorem RegL.runW {KP:AV→Sl→St→Prop} {s:St} {d:Nat} {F:Tr AV→Option AV} {A:Tr AV→Option (List AV)} {g:FuncId} {first captured args:List AV} (hop:opC E o.type o.op= .callV F A) (hF:∀T,Has l T→F T=some (.func (.func g) first captured)) (hA:∀T,Has l T→A T=some args) (hb:hasBody E g=true)
 (hg:o.guard=none) (hd:o.dst=some d) (hlt:Nat.blt d fr.nt=true) (h:RunsV E g (first++args++captured) s fun v s'=>RegL E KP all rest fr ((d,v)::l) s' K):RegL E KP all (o::rest) fr l s K:=by
 obtain⟨N,cr,hr,hm⟩:=h
 refine RegL.opK (fun T hT=>?_) hg hd hlt
 have key:∀n,N≤n→((F T).bind fun g=>(A T).bind fun args=>callVF E (ev E n) args s g)=some cr:=fun n hn=>by
  rw[hF T hT,hA T hT]
  simp only[Qe,callVF,hb,cond_true]
  exact hr n hn
 cases cr with
 |same v=>exact⟨v,s,⟨N,fun n hn k=>by
  rw[hop]
  show crOut fr T s (k.run (ev E n) fr T) ((F T).bind fun g=>(A T).bind fun args=>callVF E (ev E n) args s g)=_
  rw[key n hn];rfl⟩,hm⟩
 |val v s'=>exact⟨v,s',⟨N,fun n hn k=>by
  rw[hop]
  show crOut fr T s (k.run (ev E n) fr T) ((F T).bind fun g=>(A T).bind fun args=>callVF E (ev E n) args s g)=_
  rw[key n hn];rfl⟩,hm⟩
 |pan _ _=>exact hm.elim
theorem FD {KP:AV→Sl→St→Prop} {c:Call} {r:Operand} {name:String} {t:TypeId} {v rv:AV} {rc:Recv} {args:List AV} {d:Nat} {fn:Func} {cb:Code} {fr0:Fr} {l0:Sl} (hf:E.fns.get f=some fn) (hme:methodOf E t name=some (f,rc)) (hb:hasBody E f=true) (ho:o.op= .call c) (hc:c.callee= .invoke r name) (ha:opndsL c.args.toList l=some args) (hr0:opndL r l=some (.iface t v))
 (hv:recvV E (mkS n bd lg hl) v rc=some rv) (hg:o.guard=none) (hd:o.dst=some d) (hlt:Nat.blt d fr.nt=true) (hm:E.memo f (rv::args)=none) (hcb:fn.body=some cb) (hr:fn.results.toList=rs) (hfr:frame fn.ntmps (rv::args) none=fr0) (hl0:argsL 0 (rv::args) []=l0)
 (h:EvtL E cb fr0 l0 (mkS n n [] hl) (InlX E f rs (mkS n bd lg hl) (fun v s'=>RegL E KP all rest fr ((d,v)::l) s' K) fun v s'=>KP v l s')):RegL E KP all (o::rest) fr l (mkS n bd lg hl) K:=by
 refine RegL.runX (F:=fun T s=>(opndsC E c.args.toList T).bind fun args=>(opnd E r T).bind (invokeV E s name args)) (g:=f) (args:=rv::args) ?_ (fun T hT=>?_) hg hd hlt (RunsX.inl hm hf hcb hr hfr hl0 h)
 ·rw[ho]
  show callC E o.type c=_
  unfold callC
  rw[hc]
 ·simp only[B8 hT ha,Au hT hr0,Qe,invokeV,hme,hb,cond_true,hv]
theorem BJ {vs:List AV} {w:AV} {ks:List Nat} (hd:fr'.defers=[]) (hr:resultsL E (mkS m n [] hl') l' rs=some vs) (hz:E.frz f=1) (hf:frzV (mkS m n [] hl') n 40 (oneA vs) []=some (w,ks)) (hks:ks.all (fun b=>Nat.ble n b)=true) (hu:underV n 40 w=true)
 (h:R w (mkS n bd lg hl)):InlQ E f rs (mkS n bd lg hl) R .ret fr' l' (mkS m n [] hl'):=by
 refine⟨.inl U,mkS m n [] hl',by rw[hd];rfl,vs,hr,.same w,?_,h⟩
 unfold leave frozen
 rw[hz]
 show((frozenFrom n (oneA vs) (mkS m n [] hl')).bind _)=_
 unfold frozenFrom
 rw[hf]
 simp only[Qe,leaveQ]
 have hk:(kill (mkS m n [] hl') ks).log=[]:=kill_log (s:=mkS m n [] hl') (ks:=ks) fun b hb=>Qc (List.all_eq_true.1 hks b hb)
 rw[hk]
 show some (bif underV n 40 w then _ else _)=_
 rw[hu];rfl
def killH:List Nat→Hl→Hl
 | [],hl=>hl
 |b::ks,hl=>killH ks ((b,none)::hl)
theorem Ah {a b:Bool} (h:a=b):oneA [AV.bool a]=AV.bool b:=by rw[h];rfl
end
section
variable {E : Env} {fr : Fr} {l : Sl} {s : St} {o : Oper}
theorem OpQ.pure1 {x:Operand} {g:AV→Option AV} {a v:AV} (hop:opC E o.type o.op= .pure fun T=>(opnd E x T).bind g) (hx:opndL x l=some a) (hv:g a=some v):OpQ E o l v:=AO hop fun T hT=>by rw[Au hT hx];exact hv
theorem AF {x:Operand} {a v:AV} (ho:o.op= .nilCheck x) (hx:opndL x l=some a) (hv:okPtr E a=some v):OpQ E o l v:=OpQ.pure1 (g:=okPtr E) (by rw[ho];rfl) hx hv
theorem Bv {t e:TypeId} {x:Operand} {lo hi:Option Operand} {sz:Nat} {vlo vhi:Option AV} {a v:AV} (ho:o.op= .slice t x lo hi none) (hu:und E t=some (.slice e)) (hs:sizeOf E e=some sz) (hx:opndL x l=some a) (hlo:opndOL lo l=some vlo) (hhi:opndOL hi l=some vhi)
 (hv:sliceSlV s sz vlo vhi none a=some v):OpL E o fr l s v s:=fun T hT=>
 OpTo.read (x:=opnd E x) (f:=fun T s=>(opnd E x T).bind fun a=>(opndOC E lo T).bind fun l=>(opndOC E hi T).bind fun h=>(opndOC E none T).bind fun m=>sliceSlV s sz l h m a) (by
  rw[ho]
  show sliceC E t x lo hi none=_
  unfold sliceC
  rw[hu]
  simp only[hs]) (by
  have hm:opndOC E none T=some none:=rfl
  simp only[Au hT hx,Fm hT hlo,Fm hT hhi,hm,Qe,hv])
end
theorem mem_logged {b c:Nat}:∀ {lg:List Nat},c∈logged b lg→c∈lg∨c=b
 | [],h=> .inr (Qo.1 h)
 |d::lg,h=>by
  change c∈(bif Nat.beq b d then d::lg else b::d::lg)at h
  cases hb:Nat.beq b d with
  |true=>rw[hb]at h;exact .inl h
  |false=>
   rw[hb]at h
   rcases Qk.1 h with h|h
   ·exact .inr h
   ·exact .inl h
theorem mem_put {s:St} {b c:Nat} {o:Option AObj} (h:c∈(s.put b o).log):c∈s.log∨(c=b∧c<s.bound):=by
 have h':c∈(bif Nat.blt b s.bound then logged b s.log else s.log):=h
 cases hb:Nat.blt b s.bound with
 |false=>rw[hb]at h';exact .inl h'
 |true=>
  rw[hb]at h'
  rcases mem_logged h' with h|h
  ·exact .inl h
  ·exact .inr ⟨h,by rw[h];exact Qc hb⟩
theorem mem_below {n c:Nat}:∀ {L l:List Nat},c∈below n L l→c∈l∨(c∈L∧c<n)
 | [],_,h=> .inl h
 |b::L,l,h=>by
  unfold below at h
  cases hb:Nat.blt b n with
  |true=>
   rw[hb]at h
   rcases Qk.1 h with h|h
   ·exact .inr ⟨by rw[h];exact Qh ..,by rw[h];exact Qc hb⟩
   ·exact(mem_below h).imp id fun⟨h1,h2⟩=>⟨Qg _ h1,h2⟩
  |false=>
   rw[hb]at h
   exact(mem_below h).imp id fun⟨h1,h2⟩=>⟨Qg _ h1,h2⟩
theorem logged_ne {b:Nat} {lg:List Nat}:logged b lg≠ []:=by
 cases lg with
 |nil=>exact fun h=>by cases h
 |cons c lg=>
  show(bif Nat.beq b c then c::lg else b::c::lg)≠ []
  cases Nat.beq b c<;>simp
theorem put_log_ne {s:St} {b:Nat} {o:Option AObj} (h:b<s.bound):(s.put b o).log≠ []:=by
 show(bif Nat.blt b s.bound then logged b s.log else s.log)≠ []
 rw[show Nat.blt b s.bound=true from Qd h]
 exact logged_ne
def BufR (s:St) (e:TypeId) (v:AV) (w:List UInt8):Prop:=
 (v= .nilslice∧w=[])∨(∃b,v= .slice b 0 0 1 (some 0)∧w=[]∧b<s.next∧s.heap.get b=some (.cells [] e true))∨
  ∃b,v= .slice b 0 w.length 1 none∧w≠ []∧b<s.next∧s.heap.get b=some (.cells (byteCells w) e true)
theorem Fq {E:Env} {f:FuncId} {v:AV} {s st:St} (hf:E.frz f=1) (hl:st.log≠ []):leave E f s v st=some (.val v (s.back st)):=by
 cases hlog:st.log with
 |nil=>exact absurd hlog hl
 |cons b lg=>
  unfold leave frozen
  rw[hf,hlog]
  simp only[Qe,leaveQ,hlog]
theorem Bl {s:St} {b c:Nat} {o:Option AObj}:(s.put b o).heap.get c=if c=b then o else s.heap.get c:=AW ..
structure Chg (s s':St) (own:Nat→Prop):Prop where
 next:s.next≤s'.next
 bound:s'.bound=s.bound
 log:∀c∈s'.log,c∈s.log∨(c<s.bound∧own c)
 heap:∀c,c<s.next→¬own c→s'.heap.get c=s.heap.get c
theorem Chg.trans {s s1 s2:St} {o1 o2 own:Nat→Prop} (h:Chg s s1 o1) (h2:Chg s1 s2 o2) (e1:∀c,o1 c→own c) (e2:∀c,o2 c→own c∨s.next≤c) (hb:s.bound≤s.next):Chg s s2 own:=
 ⟨Nat.le_trans h.next h2.next,h2.bound.trans h.bound,fun c hc=>by
  rcases h2.log c hc with hc|⟨hc,ho⟩
  ·exact(h.log c hc).imp id fun⟨a,b⟩=>⟨a,e1 _ b⟩
  ·rw[h.bound]at hc
   rcases e2 c ho with ho|ho
   ·exact .inr ⟨hc,ho⟩
   ·omega,fun c hc ho=>by
  have h1:¬o2 c:=fun h=>by
   rcases e2 c h with h|h
   ·exact ho h
   ·omega
  exact(h2.heap c (Nat.lt_of_lt_of_le hc h.next) h1).trans (h.heap c hc fun h=>ho (e1 c h))⟩
theorem Chg.back {s st:St} {own:Nat→Prop} (h:Chg s.enter st own):Chg s (s.back st) own:=
 ⟨h.next,rfl,fun c hc=>by
  rcases mem_below (show c∈below s.bound st.log s.log from hc)with hc|⟨hc,hlt⟩
  ·exact .inl hc
  ·rcases h.log c hc with h|⟨_,ho⟩
   ·cases h
   ·exact .inr ⟨hlt,ho⟩,h.heap⟩
theorem Chg.put {s:St} {b:Nat} {o:Option AObj}:Chg s (s.put b o) (fun c=>c=b):=
 ⟨Qj _,rfl,fun c hc=>(mem_put hc).imp id fun⟨h1,h2⟩=>⟨h2,h1⟩,fun c _ ho=>by rw[Bl,if_neg ho]⟩
theorem mem_newL {c:Nat}:∀ {n b:Nat},c∈newL b n→b≤c
 |0,_,h=>by cases h
 |n+1,b,h=>by
  rcases Qk.1 h with rfl|h
  ·exact Qj _
  ·have:=mem_newL h;omega
theorem Chg.merged {st s2:St} {own:Nat→Prop} (h:Chg (st.sub st.heap) s2 own):Chg st (st.merged s2) own:=
 ⟨h.next,rfl,fun c hc=>by
  rcases mem_below (show c∈below st.bound s2.log st.log from hc)with hc|⟨hc,hlt⟩
  ·exact .inl hc
  ·rcases h.log c hc with h1|⟨_,h1⟩
   ·cases h1
   ·exact .inr ⟨hlt,h1⟩,fun c hc ho=>by
  show(copyAll s2.heap (newL st.next (s2.next-st.next)) (copyAll s2.heap s2.log st.heap)).get c=_
  rw[BR,if_neg (fun hm=>by have:=mem_newL hm;omega),BR]
  have:=h.heap c hc ho
  by_cases hl:c∈s2.log
  ·rw[if_pos hl];exact this
  ·rw[if_neg hl]⟩
theorem OpQ.lenV {E:Env} {l:Sl} {o:Oper} {c:Call} {t e:TypeId} {ts:List TypeId} {x:Operand} {a v:AV} (ho:o.op= .call c) (hc:c.callee= .builtin .len) (ht:c.argTypes.toList=t::ts) (ha:c.args.toList=[x]) (hu:und E t=some (.slice e)) (hx:opndL x l=some a) (hv:Am.lenSl a=some v):OpQ E o l v:=
 OpQ.pure1 (g:=Am.lenSl) (by
  rw[ho]
  show callC E o.type c=_
  unfold callC
  rw[hc]
  simp only
  rw[ht,ha]
  show lenC E t x=_
  unfold lenC
  rw[hu]) hx hv
theorem Chg.refl {s:St} {own:Nat→Prop}:Chg s s own:=⟨Qj _,rfl,fun _ h=> .inl h,fun _ _ _=>rfl⟩
theorem leave_any {E:Env} {f:FuncId} {v:AV} {s st:St} {R:AV→St→Prop} (hf:E.frz f=1) (hk:∀n w,frzV w n 40 v []=some (v,[])) (hu:∀m,underV m 40 v=true) (h1:st.log=[]→R v s) (h2:st.log≠ []→R v (s.back st)):
 ∃cr,leave E f s v st=some cr∧match cr with
  | .same v=>R v s
  | .val v s'=>R v s'
  | .pan _ _=>False:=by
 by_cases hl:st.log=[]
 ·exact⟨_,leave_flat hk hu hl,h1 hl⟩
 ·exact⟨_,Fq hf hl,h2 hl⟩
theorem clear_anc {anc b c j:Nat} {nl:News} (h:Nat.testBit anc j=true) (hn:clearB anc b nl=true):clearB anc b ((j,c)::nl)=true:=by
 unfold clearB at hn⊢
 rw[List.all_cons,hn,Bool.and_true]
 show(_||Nat.testBit anc j)=true
 rw[h,Bool.or_true]
theorem mem_logged_self {b:Nat}:∀ {lg:List Nat},b∈logged b lg
 | []=>Qo.2 rfl
 |c::lg=>by
  show b∈(bif Nat.beq b c then c::lg else b::c::lg)
  cases hb:Nat.beq b c with
  |true=>rw[Qb hb];exact Qh ..
  |false=>exact Qh ..
theorem mem_put_self {s:St} {b:Nat} {o:Option AObj} (h:b<s.bound):b∈(s.put b o).log:=by
 show b∈(bif Nat.blt b s.bound then logged b s.log else s.log)
 rw[show Nat.blt b s.bound=true from Qd h]
 exact mem_logged_self
theorem below_ne {n c:Nat}:∀ {L l:List Nat},c∈L→c<n→below n L l≠ []
 |b::L,l,hc,h=>by
  unfold below
  cases hb:Nat.blt b n with
  |true=>simp
  |false=>
   rcases Qk.1 hc with rfl|hc
   ·rw[show Nat.blt c n=true from Qd h]at hb;cases hb
   ·exact below_ne hc h
theorem back_ne {s st:St} {b:Nat} (hb:b∈st.log) (h:b<s.bound):(s.back st).log≠ []:=below_ne hb h
theorem Ag {E:Env} {l:Sl} {o:Oper} {t e:TypeId} {x i:Operand} {sz k:Nat} {ik:IntKind} {a p:AV} (ho:o.op= .indexAddr t x i) (hu:und E t=some (.slice e)) (hs:sizeOf E e=some (sz+1)) (hx:opndL x l=some a) (hi:opndL i l=some (.int ik (k:Nat))) (hv:idxSliceV (sz+1) k a=some p):OpQ E o l p:=
 AO (f:=fun T=>(opnd E i T).bind fun iv=>(natOf iv).bind fun k=>(opnd E x T).bind (idxSliceV (sz+1) k)) (by
  rw[ho]
  show indexAddrC E t x i=_
  unfold indexAddrC
  rw[hu]
  simp only[hs]) fun T hT=>by
  have h1:natOf (.int ik (k:Nat))=some k:=rfl
  simp only[Au hT hx,Au hT hi,Qe,h1,hv]
def StrsR (s:St) (v:AV) (l:List (List UInt8)):Prop:=
 (v= .nilslice∧l=[])∨(∃cl,v= .islice (l.map .str) l.length 1 cl)∨
  ∃b off cap cs e part,v= .slice b off l.length 1 cap∧b<s.next∧s.heap.get b=some (.cells cs e part)∧off+l.length≤cs.length∧(cs.drop off).take l.length=l.map .str∧(∀c,cap=some c→l.length≤c)
theorem StrsR.keep {s s':St} {v:AV} {l:List (List UInt8)} (h:StrsR s v l) (hn:s.next≤s'.next) (hh:∀c,ownB c v=true→s'.heap.get c=s.heap.get c):StrsR s' v l:=by
 rcases h with h|h|⟨b,off,cap,cs,e,part,rfl,hb,hg,h1,h2,h3⟩
 ·exact .inl h
 ·exact .inr (.inl h)
 ·exact .inr (.inr ⟨b,off,cap,cs,e,part,rfl,by omega,(hh b (Nat.beq_refl b)).trans hg,h1,h2,h3⟩)
theorem StrsR.len {s:St} {v:AV} {l:List (List UInt8)} (h:StrsR s v l):lenSl v=some (.int .i64 (l.length:Nat)):=by
 rcases h with⟨rfl,rfl⟩|⟨_,rfl⟩|⟨b,off,cap,cs,e,part,rfl,_⟩<;>rfl
theorem StrsR.at {E:Env} {s:St} {v:AV} {l:List (List UInt8)} (h:StrsR s v l) {i:Nat} (hi:i<l.length) {t:TypeId} (h1:isAgg E t=some false) (h2:sizeOf E t=some 1):∃p,idxSliceV (0+1) i v=some p∧loadC E t s p=some (.str l[i]):=by
 have hlt:Nat.blt i l.length=true:=Qd hi
 have hdrop:(l.map AV.str).drop i= .str l[i]::(l.map AV.str).drop (i+1):=by
  rw[List.drop_eq_getElem_cons (by rw[List.length_map];exact hi),List.getElem_map]
 rcases h with⟨rfl,rfl⟩|⟨_,rfl⟩|⟨b,off,cap,cs,e,part,rfl,hb,hg,hl1,hl2,_⟩
 ·simp at hi
 ·refine⟨.iptr (.str l[i]::(l.map AV.str).drop (i+1)),?_,?_⟩
  ·show(bif Nat.blt i l.length then(dropN (i*(0+1)) (l.map AV.str)).bind iptrO else none)=_
   rw[hlt,Nat.zero_add,Nat.mul_one,dropN_ok (by rw[List.length_map];omega),hdrop];rfl
  ·unfold loadC
   simp only[h1,h2]
   rfl
 ·refine⟨.ptr b (off+i*(0+1)),?_,?_⟩
  ·show(bif Nat.blt i l.length then some (AV.ptr b (off+i*(0+1)))else none)=_
   rw[hlt];rfl
  ·refine An h1 h2 hg ?_
   have:((cs.drop off).take l.length)[i]?=some (.str l[i]):=by rw[hl2,List.getElem?_map,Qi hi];rfl
   rw[List.getElem?_take_of_lt hi,List.getElem?_drop]at this
   rw[Nat.zero_add,Nat.mul_one];exact this
def joinS (sep:List UInt8):List (List UInt8)→List UInt8
 | []=>[]
 |a::l=>a++l.flatMap (sep++·)
theorem E3 {E:Env} {fr:Fr} {l:Sl} {s:St} {Q:Ex→Fr→Sl→St→Prop} {a b:Code} (l2:Sl) (s2:St) (h1:EvtL E a fr l s fun ex fr' l' s'=>ex= .normal∧fr'=fr∧s'=s2∧∀p∈l2,look p.1 l'=some p.2) (h2:EvtL E b fr l2 s2 Q):EvtL E (.seq a b) fr l s Q:=
 Ab (h1.mono fun ex fr' l' s' ⟨e1,e2,e3,e4⟩=>by
  subst e1 e2 e3
  exact EvtL.sub h2 e4)
def SubL:Sl→Sl→Prop
 | [],_=>True
 |p::r,l=>look p.1 l=some p.2∧SubL r l
theorem Av {l:Sl}:∀ {l':Sl},SubL l' l→∀p∈l',look p.1 l=some p.2
 | [],_,_,h=>by cases h
 |q::r,h,p,hp=>by
  rcases Qk.1 hp with rfl|hp
  ·exact h.1
  ·exact Av h.2 p hp
theorem OpQ.mulN {E:Env} {l:Sl} {o:Oper} {t yt:TypeId} {x y:Operand} {a b:Nat} (ho:o.op= .binOp .mul t x y yt) (hu:und E t=some (.int .i64)) (hx:opndL x l=some (.int .i64 (a:Nat))) (hy:opndL y l=some (.int .i64 (b:Nat)))
 (h:a*b<9223372036854775808):OpQ E o l (.int .i64 ((a*b:Nat):Int)):=by
 have:=OpQ.mul (E:=E) (l:=l) ho hu hx hy (by rw[←Int.natCast_mul];omega)
 rwa[←Int.natCast_mul]at this
theorem OpQ.pure2 {E:Env} {l:Sl} {o:Oper} {x y:Operand} {f:AV→AV→Option AV} {a b v:AV} (hop:opC E o.type o.op=Am.pure2 E f x y) (hx:opndL x l=some a) (hy:opndL y l=some b) (hv:f a b=some v):OpQ E o l v:=
 AO (f:=fun T=>(opnd E x T).bind fun a=>(opnd E y T).bind fun b=>f a b) hop fun T hT=>by simp only[Au hT hx,Au hT hy,Qe,hv]
def idxS (c:UInt8):List UInt8→Option Nat
 | []=>none
 |b::l=>if b=c then some 0 else(idxS c l).map (· +1)
def idxI (c:UInt8) (w:List UInt8):Int:=match idxS c w with
 |some n=>(n:Int)
 |none=> -1
theorem idxA_S (c:UInt8):∀w:List UInt8,idxA c.toNat w=idxS c w
 | []=>rfl
 |b::w=>by
  show(bif Nat.beq b.toNat c.toNat then some 0 else(idxA c.toNat w).bind fun n=>some (n+1))=if b=c then some 0 else(idxS c w).map (· +1)
  rw[idxA_S c w]
  by_cases h:b=c
  ·rw[if_pos h,h,Nat.beq_refl];rfl
  ·rw[if_neg h]
   have:Nat.beq b.toNat c.toNat=false:=by
    cases hb:Nat.beq b.toNat c.toNat with
    |false=>rfl
    |true=>exact absurd (UInt8.toNat_inj.1 (Qb hb)) h
   rw[this]
   cases idxS c w<;>rfl
theorem indexByteV_eq (c:UInt8) (w:List UInt8):indexByteV (.str w) (.int .u8 (c.toNat:Nat))=some (.int .i64 (idxI c w)):=by
 have hc:Nat.blt c.toNat 256=true:=Qd (by have:=c.toNat_lt;omega)
 show(bif Nat.blt c.toNat 256 then(match idxA c.toNat w with
  |some n=>some (AV.int .i64 n)
  |none=>some (.int .i64 (-1)))else none)=_
 rw[hc,idxA_S]
 unfold idxI
 cases idxS c w<;>rfl
theorem F8 {c:UInt8}:∀ {w:List UInt8} {n:Nat},idxS c w=some n→n<w.length
 |b::w,n,h=>by
  unfold idxS at h
  split at h
  ·cases h;simp
  ·obtain⟨m,hm,rfl⟩:=Option.map_eq_some_iff.1 h
   have:=F8 hm
   simp;omega
theorem idxS_none {c:UInt8}:∀ {w:List UInt8},idxS c w=none↔c∉w
 | []=>by simp[idxS]
 |b::w=>by
  unfold idxS
  by_cases h:b=c
  ·subst h;simp
  ·rw[if_neg h,Option.map_eq_none_iff,idxS_none,Qk]
   constructor
   ·rintro h1 (h2|h2)
    ·exact h h2.symm
    ·exact h1 h2
   ·exact fun h1 h2=>h1 (.inr h2)
def tw (p:Int→Bool) (w:List UInt8):Nat:=(w.takeWhile fun b=>p b.toNat).length
theorem tw_le (p:Int→Bool) (w:List UInt8):tw p w≤w.length:=(List.takeWhile_sublist _).length_le
theorem tw_step {p:Int→Bool}:∀ {w:List UInt8} {k:Nat},k≤tw p w→k<w.length→(p (w.getD k 0).toNat=true↔k<tw p w)
 |b::w,0,_,_=>by
  cases h:p b.toNat<;>simp[tw,List.takeWhile_cons,h]
 |b::w,k+1,hk,hw=>by
  cases h:p b.toNat with
  |false=>simp[tw,List.takeWhile_cons,h]at hk
  |true=>
   have e:tw p (b::w)=tw p w+1:=by simp[tw,List.takeWhile_cons,h]
   rw[e]at hk⊢
   have:=tw_step (p:=p) (w:=w) (k:=k) (by omega) (by simpa using hw)
   rw[List.getD_cons_succ,this];omega
structure Fresh (e:TypeId) (st st1:St) (cells:List AV):Prop where
 next:st1.next=st.next+1
 bound:st1.bound=st.bound
 log:st1.log=st.log
 low:∀c,c<st.next→st1.heap.get c=st.heap.get c
 cell:st1.heap.get st.next=some (.cells cells e false)
theorem put_low {s:St} {c:Nat} {o:Option AObj} (h:s.bound=0):(s.put c o).log=s.log:=by
 show(bif Nat.blt c s.bound then _ else s.log)=_
 rw[h];rfl
theorem D0 {E:Env} {s:St} {l:Sl} {a t k b:Nat} {rs:List ResultVar} {vs cs:List AV} {e:TypeId} {part:Bool} (hp:look a l=some (.ptr b 0)) (h1:isAgg E t=some true) (h2:sizeOf E t=some k) (hg:s.heap.get b=some (.cells cs e part)) (hk:k≤cs.length)
 (h:resultsL E s l rs=some vs):resultsL E s l (.cell a t::rs)=some (.agg (cs.take k)::vs):=by
 have hv:loadC E t s (.ptr b 0)=some (.agg ((cs.drop 0).take k)):=A8 h1 h2 hg (by omega)
 unfold resultsL
 rw[hp]
 simp only[Qe,hv,h]
 rfl
theorem res_cellG1 {E:Env} {s:St} {l:Sl} {a t k b:Nat} {rs:List ResultVar} {vs cs:List AV} {v:AV} {e:TypeId} {part:Bool} (hp:look a l=some (.ptr b 0)) (h1:isAgg E t=some false) (h2:sizeOf E t=some k) (hg:s.heap.get b=some (.cells cs e part)) (hk:cs[0]?=some v)
 (h:resultsL E s l rs=some vs):resultsL E s l (.cell a t::rs)=some (v::vs):=by
 have hv:loadC E t s (.ptr b 0)=some v:=An h1 h2 hg hk
 unfold resultsL
 rw[hp]
 simp only[Qe,hv,h]
inductive Data (P:Program):TypeId→List AV→Prop
 |bool {t:TypeId} (h:P.underlying t=some .bool) (b:Bool):Data P t [.bool b]
 |int {t:TypeId} {k:IntKind} {n:Int} (h:P.underlying t=some (.int k)) (hw:(Lit.int k n).wf=true):Data P t [.int k n]
 |str {t:TypeId} (h:P.underlying t=some .string) {w:List UInt8} (hw:w.length≤maxLen):Data P t [.str w]
 |sl {t e:TypeId} (h:P.underlying t=some (.slice e)) {ls:List (List AV)} (hn:ls.length≤maxLen) (hl:∀l∈ls,l.length=P.cellsOf e) (hd:∀l∈ls,Data P e l):Data P t [.islice ls.flatten ls.length (P.cellsOf e) true]
 |st {t:TypeId} {fs:Array Field} (h:P.underlying t=some (.struct fs)) {ls:List (List AV)} (hl:ls.length=fs.toList.length) (hd:∀(i:Nat) f l,fs.toList[i]?=some f→ls[i]?=some l→Data P f.type l):Data P t ls.flatten
def okLay (P:Program):Nat→List Field→Option Nat
 |off,[]=>some off
 |off,f::fs=>bif Nat.beq f.offset off then okLay P (off+P.cellsOf f.type) fs else none
def dataT (P:Program) (ts:List TypeId) (t:TypeId):Bool:=
 match P.underlying t with
 |some .bool|some (.int _)|some .string=>true
 |some (.slice e)=>ts.contains e
 |some (.struct fs)=>(fs.toList.all fun f=>ts.contains f.type)&&(match okLay P 0 fs.toList with|some n=>Nat.beq n (P.cellsOf t)|none=>false)
 |_=>false
def dataB (P:Program) (ts:List TypeId):Bool:=ts.all (dataT P ts)
section
variable {H : Type} {enc : TypeId × Value → H} {P : Program} {W : World}
variable {sp : Nat → Bool} {held : Bool} {ts : List TypeId}
end
section
variable {E : Env} {fr : Fr} {l : Sl} {s : St} {o : Oper}
theorem OpL.rangeStr {t:TypeId} {x:Operand} {w:List UInt8} (ho:o.op= .range t x) (hu:und E t=some .string) (hx:opndL x l=some (.str w)):OpL E o fr l s (.ptr s.next 0) (s.alloc (.siter w 0)):=fun T hT=>
 Fy (f:=fun T=>(opnd E x T).bind Am.rangeStr) (by
  rw[ho]
  show rangeC E t x=_
  unfold rangeC
  rw[hu]) (by rw[Au hT hx];rfl)
theorem nextStr_at {b pos:Nat} {w:List UInt8} (hg:s.heap.get b=some (.siter w pos)):nextStr s (.ptr b 0)=nextStrIn s b (some (.siter w pos)):=by
 show nextStrIn s b (s.heap.get b)=_
 rw[hg]
theorem OpL.next {it:Operand} {v:AV} {p:AV×St} (ho:o.op= .next it true) (hx:opndL it l=some v) (h:nextStr s v=some p):OpL E o fr l s p.1 p.2:=fun T hT=>
 OpTo.act (b:=true) (x:=opnd E it) (f:=fun T s=>(opnd E it T).bind (nextStr s)) (by rw[ho];rfl) (by rw[Au hT hx,Qe,h])
theorem OpL.nextEnd {it:Operand} {b pos:Nat} {w:List UInt8} (ho:o.op= .next it true) (hx:opndL it l=some (.ptr b 0)) (hg:s.heap.get b=some (.siter w pos)) (hp:pos=w.length):OpL E o fr l s (.tuple [.bool false]) s:=by
 subst hp
 refine OpL.next (p:=(.tuple [.bool false],s)) ho hx ?_
 rw[nextStr_at hg]
 show(dropN w.length w).bind _=_
 rw[show dropN w.length w=some [] by
  have:=EV w ([]:List UInt8)
  rwa[List.append_nil]at this];rfl
theorem dropN_at {α:Type} {l:List α} {k:Nat} {d:α} (h:k<l.length):dropN k l=some (l.getD k d::l.drop (k+1)):=by
 have h1:l=l.take k++(l.getD k d::l.drop (k+1)):=by
  rw[List.getD,Qi h,Option.getD_some,←List.drop_eq_getElem_cons h,List.take_append_drop]
 have h2:(l.take k).length=k:=by rw[List.length_take];omega
 have:=EV (l.take k) (l.getD k d::l.drop (k+1))
 rwa[h2,←h1]at this
theorem OpL.nextOne {it:Operand} {b pos:Nat} {w:List UInt8} (ho:o.op= .next it true) (hx:opndL it l=some (.ptr b 0)) (hg:s.heap.get b=some (.siter w pos)) (hp:pos<w.length) (hc:(w.getD pos 0).toNat<128):
 OpL E o fr l s (.tuple [.bool true,.int .i64 (pos:Nat),.int .i32 ((w.getD pos 0).toNat:Nat)]) (s.put b (some (.siter w (pos+1)))):=by
 refine OpL.next (p:=(.tuple [.bool true,.int .i64 (pos:Nat),.int .i32 ((w.getD pos 0).toNat:Nat)],s.put b (some (.siter w (pos+1))))) ho hx ?_
 rw[nextStr_at hg]
 show(dropN pos w).bind _=_
 rw[dropN_at (d:=0) hp]
 show(bif Nat.blt (w.getD pos 0).toNat 128 then _ else _)=_
 rw[show Nat.blt (w.getD pos 0).toNat 128=true from Qd hc];rfl
theorem decode_wide {s:ByteArray} {i:Nat} (h:128≤(s.get! (i+0)).toNat):128≤(Utf8.decode s i).1:=by
 unfold Utf8.decode
 simp only
 rw[if_neg (by omega)]
 have hr:128≤Utf8.runeError:=by decide
 split
 ·split
  ·next h=>exact h
  ·exact hr
 ·split
  ·split
   ·next h=>rw[Qf,decide_eq_true_eq]at h;have:=h.1;show 128≤_;omega
   ·exact hr
  ·split
   ·split
    ·next h=>rw[Qf,decide_eq_true_eq]at h;have:=h.1;show 128≤_;omega
    ·exact hr
   ·exact hr
theorem OpL.nextWide {b pos:Nat} {w:List UInt8} (hg:s.heap.get b=some (.siter w pos)) (hp:pos<w.length) (hc:¬(w.getD pos 0).toNat<128):
 ∃r d:Nat,128≤r∧∀ {E:Env} {fr:Fr} {l:Sl} {o:Oper} {it:Operand},o.op= .next it true→opndL it l=some (.ptr b 0)→OpL E o fr l s (.tuple [.bool true,.int .i64 (pos:Nat),.int .i32 (r:Nat)]) (s.put b (some (.siter w (pos+d)))):=by
 refine⟨(Utf8.decode ⟨w.toArray⟩ pos).1,(Utf8.decode ⟨w.toArray⟩ pos).2,decode_wide ?_,fun ho hx=>?_⟩
 ·have:(ByteArray.mk w.toArray).get! (pos+0)=w.getD pos 0:=by
   show(w.toArray)[pos+0]! =_
   simp[List.getD,hp]
  rw[this];omega
 refine OpL.next (p:=(.tuple [.bool true,.int .i64 (pos:Nat),.int .i32 ((Utf8.decode ⟨w.toArray⟩ pos).1:Nat)],s.put b (some (.siter w (pos+(Utf8.decode ⟨w.toArray⟩ pos).2))))) ho hx ?_
 rw[nextStr_at hg]
 show(dropN pos w).bind _=_
 rw[dropN_at (d:=0) hp]
 show(bif Nat.blt (w.getD pos 0).toNat 128 then _ else _)=_
 rw[show Nat.blt (w.getD pos 0).toNat 128=false by
  cases hb:Nat.blt (w.getD pos 0).toNat 128 with
  |false=>rfl
  |true=>exact absurd (Qc hb) (by omega)];rfl
theorem OpL.rangeStrS {n bd:Nat} {lg:List Nat} {hl:Hl} {t:TypeId} {x:Operand} {w:List UInt8} (m:Nat) (ho:o.op= .range t x) (hu:und E t=some .string) (hx:opndL x l=some (.str w)) (hm:n+1=m):OpL E o fr l (mkS n bd lg hl) (.ptr n 0) (mkS m bd lg ((n,some (.siter w 0))::hl)):=by
 subst hm
 exact OpL.rangeStr ho hu hx
end
def recs {α:Type} (enc:α→List AV) (k:Nat) (l:List α):AV:= .islice (l.flatMap enc) l.length k true
theorem flat_len {α:Type} {enc:α→List AV} {k:Nat} (h:∀a,(enc a).length=k):∀l:List α,(l.flatMap enc).length=l.length*k
 | []=>(Nat.zero_mul k).symm
 |a::l=>by rw[List.flatMap_cons,Qm,flat_len h l,h a,List.length_cons,Nat.succ_mul,Nat.add_comm]
theorem flat_drop {α:Type} {enc:α→List AV} {k:Nat} (h:∀a,(enc a).length=k):∀ {l:List α} {i:Nat} (hi:i<l.length),(l.flatMap enc).drop (i*k)=enc l[i]++(l.drop (i+1)).flatMap enc
 |a::l,0,_=>by rw[Nat.zero_mul,List.drop_zero];rfl
 |a::l,i+1,hi=>by
  have ih:=flat_drop h (l:=l) (i:=i) (by simpa using hi)
  rw[List.flatMap_cons,show(i+1)*k=(enc a).length+i*k by rw[h a,Nat.succ_mul,Nat.add_comm],List.drop_length_add_append,ih]
  rfl
theorem AC {α:Type} {enc:α→List AV} {k:Nat} (h:∀a,(enc a).length=k+1) {l:List α} {i:Nat} (hi:i<l.length):idxSliceV (k+1) i (recs enc (k+1) l)=some (.iptr (enc l[i]++(l.drop (i+1)).flatMap enc)):=by
 unfold recs idxSliceV
 simp only[show Nat.blt i l.length=true from Qd hi,cond_true]
 have hlt:i*(k+1)<(l.flatMap enc).length:=by rw[flat_len h];exact Nat.mul_lt_mul_of_pos_right hi (Nat.succ_pos k)
 have hd:=flat_drop h hi
 have h1:dropN (i*(k+1)) (l.flatMap enc)=some ((l.flatMap enc).drop (i*(k+1))):=by
  have:=EV ((l.flatMap enc).take (i*(k+1))) ((l.flatMap enc).drop (i*(k+1)))
  rwa[List.take_append_drop,List.length_take,Nat.min_eq_left (by omega)]at this
 rw[h1,hd,Qe]
 cases he:enc l[i]with
 |nil=>have:=h l[i];rw[he]at this;cases this
 |cons c cs=>rfl
theorem StrsR.at2 {E:Env} {s:St} {v:AV} {l:List (List UInt8)} (h:StrsR s v l) {i:Nat} (hi:i<l.length) {t:TypeId} (h1:isAgg E t=some false) (h2:sizeOf E t=some 1):
 (∃rest,idxSliceV (0+1) i v=some (.iptr (.str l[i]::rest)))∨∃b off,idxSliceV (0+1) i v=some (.ptr b off)∧loadC E t s (.ptr b off)=some (.str l[i]):=by
 obtain⟨p,hp,hl⟩:=h.at hi h1 h2
 rcases h with⟨rfl,rfl⟩|⟨cl,rfl⟩|⟨b,off,cap,cs,e,part,rfl,hb,hg,hc⟩
 ·simp at hi
 ·refine .inl ⟨(l.map AV.str).drop (i+1),?_⟩
  unfold idxSliceV
  simp only[show Nat.blt i l.length=true from Qd hi,cond_true]
  rw[show i*(0+1)=i by omega]
  have h':i<(l.map AV.str).length:=by rw[List.length_map];exact hi
  have h1:=dropN_at (d:=AV.junk) h'
  rw[h1,List.getD,Qi h',Option.getD_some,List.getElem_map]
  rfl
 ·unfold idxSliceV at hp
  simp only[show Nat.blt i l.length=true from Qd hi,cond_true]at hp
  cases hp
  refine .inr ⟨b,off+i*(0+1),?_,hl⟩
  unfold idxSliceV
  simp only[show Nat.blt i l.length=true from Qd hi,cond_true]
section
variable {E : Env} {fr : Fr} {l : Sl} {o : Oper} {all rest : List Oper} {i : Nat} {js : List Nat} {nl : News} {K : Sl → St → Prop} {st : St} {od : Option Nat}
theorem RegN.append {KN:PN} {c:Call} {t e:TypeId} {ts:List TypeId} {x y:Operand} {sz by_ n:Nat} {z a b v:AV} {new:List AV} {s2:St} (ho:o.op= .call c) (hc:c.callee= .builtin .append) (ht:c.argTypes.toList=t::ts) (ha:c.args.toList=[x,y])
 (hu:und E t=some (.slice e)) (hsz:sizeOf E e=some sz) (hby:bytesOf E e=some by_) (hz:zeroOf E e=some z) (hk:(!(Nat.beq (len' z.cells) sz)||Nat.beq sz 0|| !(knownT E ts.head?))=false) (h0:isZeros E ts.head?=false)
 (hx:opndL x (restr (tmpsOf o.op.operands.toList) l)=some a) (hy:opndL y (restr (tmpsOf o.op.operands.toList) l)=some b) (hn:appendedV (st.sub st.heap) sz b=some (new,n)) (hr:appendTo (st.sub st.heap) e sz by_ new n a=some (v,s2))
 (hnx:st.next≤s2.next) (hlog:∀b∈s2.log,b<st.next∧clearB (ancOf all i) b nl=true) (hjs:seenB (ancOf all i) js=true) (hnl:(nl.all fun p=>Nat.testBit (ancOf all i) p.1)=true)
 (hg:GuardOn all l o) (hd:o.dst=od) (hlt:dstOk fr.nt od=true)
 (h:RegN E KN all rest (i+1) fr (putL od v l) (st.merged s2) (i::js) (tagL i (tagL i nl (newL st.next (s2.next-st.next))) s2.log) K):RegN E KN all (o::rest) i fr l st js nl K:=
 RegN.act (x:=opnd E x) (f:=fun T s=>(opnd E x T).bind fun a=>(opnd E y T).bind fun b=>(appendedV s sz b).bind fun p=>appendTo s e sz by_ p.1 p.2 a) (by
  rw[ho]
  show callC E o.type c=_
  unfold callC
  rw[hc]
  simp only
  rw[ht,ha]
  show appendC E t ts.head? x y=_
  unfold appendC
  rw[hu]
  simp only[hsz,hby,hz,hk,h0,cond_false]) (OpL.append ho hc ht ha hu hsz hby hz hk h0 hx hy hn hr) hnx hlog hjs hnl hg hd hlt h
end
theorem fresh_append {st:St} {e:TypeId} {by_:Nat} {new:List AV} (hs:small new.length by_=true) (hb:st.bound=0):
 ∃v' s2,appendTo (st.sub st.heap) e 1 by_ new new.length .nilslice=some (v',s2)∧st.next≤s2.next∧s2.next≤st.next+1∧s2.log=[]∧Grown (st.merged s2) e 1 v' new new.length∧(∀c,ownB c v'=true→c=st.next)∧
  (∀c,c<st.next→(st.merged s2).heap.get c=st.heap.get c)∧(st.merged s2).log=st.log∧(st.merged s2).bound=0:=by
 cases hn:new with
 |nil=>
  refine⟨.nilslice,st.sub st.heap,rfl,Qj _,Nat.le_succ _,rfl,.inl ⟨rfl,rfl,rfl⟩,(fun c hc=>by cases hc),fun c hc=>?_,?_,hb⟩
  ·show(copyAll _ (newL st.next (st.next-st.next)) st.heap).get c=_
   rw[Nat.sub_self];rfl
  ·show below st.bound [] st.log=_
   rfl
 |cons a l=>
  rw[hn]at hs
  have hm:((st.sub st.heap).alloc (.cells (a::l) e true)).next=st.next+1:=rfl
  refine⟨.slice st.next 0 (a::l).length 1 none,(st.sub st.heap).alloc (.cells (a::l) e true),?_,Nat.le_succ _,Qj _,rfl,.inr ⟨st.next,rfl,Nat.lt_succ_self _,?_,by omega,by simp⟩,fun c hc=>(Qb hc).symm,fun c hc=>?_,rfl,hb⟩
  ·unfold appendTo
   rw[hs];rfl
  ·rw[merged_get hm,if_pos (.inl rfl)]
   show(st.heap.set st.next _).get st.next=_
   rw[AW,if_pos rfl]
  ·rw[merged_get hm,if_neg (by
    rintro(h|h)
    ·omega
    ·cases h)]
theorem StrsR.appended {s:St} {v:AV} {l:List (List UInt8)} (h:StrsR s v l):appendedV s 1 v=some (l.map .str,l.length):=by
 rcases h with⟨rfl,rfl⟩|⟨cl,rfl⟩|⟨b,off,cap,cs,e,part,rfl,hb,hg,hl1,hl2,_⟩
 ·rfl
 ·show(takeN (l.length*1) (l.map AV.str)).bind _=_
  have h1:=takeN_all (l.map AV.str)
  rw[List.length_map]at h1
  rw[Nat.mul_one,h1];rfl
 ·show(cellsOf? (s.heap.get b)).bind _=_
  rw[hg]
  show(dropN off cs).bind _=_
  rw[dropN_ok (by omega),Qe]
  have h1:=takeN_append ((cs.drop off).take l.length) ((cs.drop off).drop l.length)
  rw[List.take_append_drop,hl2,List.length_map]at h1
  rw[Nat.mul_one,h1];rfl
section
variable {E : Env} {fr : Fr} {l : Sl} {o : Oper} {all rest : List Oper} {i : Nat} {js : List Nat} {nl : News} {K : Sl → St → Prop} {st : St} {od : Option Nat}
theorem Bi {KN:PN} {t e:TypeId} {len sz:Nat} {parts:Array (Nat×Operand)} {z:AV} {ps:List (Nat×AV)} {cs:List AV} (ho:o.op= .buildSlice t (len+1) parts) (hu:und E t=some (.slice e)) (hs:sizeOf E e=some sz) (hz:zeroOf E e=some z)
 (hk:(Nat.beq (len' z.cells) sz&&Nat.ble ((len+1)*sz) 16777216&& !(Nat.beq sz 0))=true) (hq:partsL parts.toList (restr (tmpsOf o.op.operands.toList) l)=some ps) (hf:fillA (fun i=>some (i*sz,sz)) ps (repeatA z.cells (len+1))=some cs)
 (hg:GuardOn all l o) (hd:o.dst=od) (hlt:dstOk fr.nt od=true)
 (h:RegN E KN all rest (i+1) fr (putL od (.slice st.next 0 (len+1) sz (some (len+1))) l) (st.alloc (.cells cs e false)) js ((i,st.next)::nl) K):RegN E KN all (o::rest) i fr l st js nl K:=
 RegN.make (f:=fun T=>(partsC E parts.toList T).bind fun ps=>buildSliceV e sz (len+1) (fillA (fun i=>some (i*sz,sz)) ps (repeatA z.cells (len+1)))) (g:=fun b=> .slice b 0 (len+1) sz (some (len+1))) (by
  rw[ho]
  show buildSliceC E t (len+1) parts.toList=_
  unfold buildSliceC
  rw[hu]
  simp only[hs,hz,hk,cond_true]) (fun T hT=>by
  simp only[partsL_ok hT hq,Qe,hf]
  rfl) hg hd hlt h
end
theorem Dj {anc b:Nat}:∀ {nl:News},(nl.all fun p=>Nat.testBit anc p.1)=true→clearB anc b nl=true
 | [],_=>rfl
 |(j,c)::nl,h=>by
  rw[List.all_cons,Qf]at h
  exact clear_anc h.1 (Dj h.2)
theorem AR {n k:Nat} (h:n*(k+1)≤1099511627776) (hk:k+1≤1048576):small n (k+1)=true:=by
 have:n≤n*(k+1):=Nat.le_mul_of_pos_right _ (Nat.succ_pos k)
 unfold small
 rw[Qd h,Qd (show n≤1099511627776 by omega),Qd hk]
 rfl
theorem Grown.strs {s:St} {e:TypeId} {v:AV} {l:List (List UInt8)} {n:Nat} (h:Grown s e 1 v (l.map .str) n) (hn:n=l.length):StrsR s v l:=by
 subst hn
 rcases h with⟨rfl,h0,hc⟩|⟨b,rfl,hb,hg,hl,h0⟩
 ·exact .inl ⟨rfl,by simpa using hc⟩
 ·exact .inr (.inr ⟨b,0,none,_,_,_,rfl,hb,hg,by rw[List.length_map];omega,by rw[List.drop_zero,List.take_of_length_le (by rw[List.length_map];exact Qj _)],fun c hc=>by cases hc⟩)
theorem tag_all {anc i:Nat} {nl:News} (hi:Nat.testBit anc i=true) (h:(nl.all fun p=>Nat.testBit anc p.1)=true):∀L:List Nat,((tagL i nl L).all fun p=>Nat.testBit anc p.1)=true
 | []=>h
 |b::L=>by
  show(Nat.testBit anc i&&_)=true
  rw[hi,tag_all hi h L];rfl
theorem cons_all {anc i b:Nat} {nl:News} (hi:Nat.testBit anc i=true) (h:(nl.all fun p=>Nat.testBit anc p.1)=true):(((i,b)::nl).all fun p=>Nat.testBit anc p.1)=true:=by
 rw[List.all_cons,h,hi];rfl
section
variable {E : Env} {fr : Fr} {l : Sl} {s : St} {all rest : List Oper} {o : Oper}
theorem RegL.un {KP:AV→Sl→St→Prop} {K:Sl→St→Prop} {j e:Nat} {w b:Bool} {oj:Oper} (hg:o.guard=some (j,w)) (hj:nth all j=some oj) (he:oj.dst=some e) (hl:look e l=some (.bool b)) (hb:b=w)
 (h:RegL E KP all ({o with guard:=none}::rest) fr l s K):RegL E KP all (o::rest) fr l s K:=by
 intro T hT
 obtain⟨M,ex,l',T',s2,hk,hT',hr⟩:=h T hT
 refine⟨M,ex,l',T',s2,hk,hT',fun n hn=>?_⟩
 have hr:=hr n hn
 have hr':(oneC E all {o with guard:=none} (thenK o.dst (runC E all rest))).run (ev E n) fr T s=_:=hr
 show(oneC E all o (thenK o.dst (runC E all rest))).run (ev E n) fr T s=_
 unfold oneC guarded at hr'⊢
 rw[hg]
 simp only at hr'⊢
 rw[wanted_go (g:=(j,w)) hj he (hT e _ hl)]
 have:(bif w then b else !b)=true:=by rw[hb];cases w<;>rfl
 rw[this]
 simp only[guardOut,cond_true]
 exact hr'
theorem get_allocS {st:St} {ob:AObj} {c:Nat}:(st.alloc ob).heap.get c=if c=st.next then some ob else st.heap.get c:=AW ..
theorem Dg {st:St} {ob:AObj}:(st.alloc ob).heap.get st.next=some ob:=by rw[get_allocS,if_pos rfl]
theorem Bw {st:St} {ob:AObj} {c:Nat} (h:c<st.next):(st.alloc ob).heap.get c=st.heap.get c:=by rw[get_allocS,if_neg (Nat.ne_of_lt h)]
theorem Chg.alloc {st:St} {ob:AObj} {own:Nat→Prop}:Chg st (st.alloc ob) own:=
 ⟨Nat.le_succ _,rfl,fun _ h=> .inl h,fun _ hc _=>Bw hc⟩
def entsN:Nat→List (List UInt8)→List Ent
 |_,[]=>[]
 |k,w::l=>(.str w,.bool true,k)::entsN (k+1) l
theorem entsN_app:∀(k:Nat) (l:List (List UInt8)) (w:List UInt8),entsN k (l++[w])=entsN k l++[(.str w,.bool true,k+l.length)]
 |_,[],_=>rfl
 |k,a::l,w=>by
  show(AV.str a,AV.bool true,k)::entsN (k+1) (l++[w])=_
  rw[entsN_app (k+1) l w]
  show _=(AV.str a,AV.bool true,k)::(entsN (k+1) l++[(.str w,.bool true,k+(l.length+1))])
  rw[show k+1+l.length=k+(l.length+1) by omega]
theorem entsN_find (w:List UInt8):∀(k:Nat) (l:List (List UInt8)),∃r,findT (.one .string) (.str w) (entsN k l)=some r∧(r=none↔l.contains w=false)∧foundV false (.bool false) r= .bool (l.contains w)
 |_,[]=>⟨none,rfl,⟨fun _=>rfl,fun _=>rfl⟩,rfl⟩
 |k,a::l=>by
  obtain⟨r,h1,h2,h3⟩:=entsN_find w (k+1) l
  by_cases ha:w=a
  ·subst ha
   refine⟨some (.str w,.bool true,k),?_,?_,?_⟩
   ·show(some (bytesEq w w)).bind _=_
    rw[Bn,decide_eq_true rfl,Qe,h1];rfl
   ·simp
   ·simp[foundV]
  ·refine⟨r,?_,?_,?_⟩
   ·show(some (bytesEq w a)).bind _=_
    rw[Bn,decide_eq_false ha,Qe,h1];rfl
   ·rw[h2];simp[ha]
   ·rw[h3];simp[ha]
theorem entsN_lookup {st:St} {b:Nat} {l:List (List UInt8)} {w:List UInt8} {clock:Nat} (hg:st.heap.get b=some (.map (entsN 0 l) clock)):lookupV (.one .string) st false (.bool false) (.map b) (.str w)=some (.bool (l.contains w)):=by
 obtain⟨r,h1,_,h3⟩:=entsN_find w 0 l
 show((mapOf? (st.heap.get b)).bind fun es=>(findT _ _ es).bind fun r=>some (foundV false (.bool false) r))=_
 rw[hg]
 show(findT _ _ (entsN 0 l)).bind _=_
 rw[h1,Qe,h3]
theorem entsN_put {st:St} {b:Nat} {l:List (List UInt8)} {w:List UInt8} (hg:st.heap.get b=some (.map (entsN 0 l) l.length)):
 ∃ob,mapSetV (.one .string) st (.str w) (.bool true) (.map b)=some (st.put b (some ob))∧(l.contains w=false→ob= .map (entsN 0 (l++[w])) (l++[w]).length):=by
 obtain⟨r,h1,h2,h3⟩:=entsN_find w 0 l
 cases r with
 |none=>
  refine⟨_,?_,fun _=>rfl⟩
  show mapSetIn (.one .string) st b (.str w) (.bool true) (st.heap.get b)=_
  rw[hg]
  show(findT _ _ (entsN 0 l)).bind _=_
  rw[h1,Qe]
  show some (st.put b (some (.map (entsN 0 l++[(.str w,.bool true,l.length)]) (l.length+1))))=_
  rw[entsN_app,Nat.zero_add,Qm];rfl
 |some e=>
  refine⟨.map (updA (.one .string) (.str w) (.bool true) (entsN 0 l)) l.length,?_,fun h=>?_⟩
  ·show mapSetIn (.one .string) st b (.str w) (.bool true) (st.heap.get b)=_
   rw[hg]
   show(findT _ _ (entsN 0 l)).bind _=_
   rw[h1];rfl
  ·exact absurd (h2.2 h) (by simp)
end
section
variable {E : Env} {fr : Fr} {l : Sl} {s : St} {all rest : List Oper} {o : Oper} {K : Sl → St → Prop}
theorem RegL.callVal {KP:AV→Sl→St→Prop} {c:Call} {t f:Nat} {first captured args xs:List AV} {d:Nat} (hb:hasBody E f=true) (ho:o.op= .call c) (hc:c.callee= .value (.tmp t)) (hv:look t l=some (.func (.func f) first captured)) (ha:opndsL c.args.toList l=some args) (hg:o.guard=none) (hd:o.dst=some d)
 (hlt:Nat.blt d fr.nt=true) (hx:first++args++captured=xs) (h:RunsV E f xs s fun v s'=>RegL E KP all rest fr ((d,v)::l) s' K):RegL E KP all (o::rest) fr l s K:=by
 subst hx
 refine RegL.runW (F:=opnd E (.tmp t)) (A:=opndsC E c.args.toList) ?_ (fun T hT=>hT t _ hv) (fun T hT=>B8 hT ha) hb hg hd hlt h
 rw[ho]
 show callC E o.type c=_
 unfold callC
 rw[hc]
end
theorem BV {E:Env} {l:Sl} {o:Oper} {t e:TypeId} {x i:Operand} {sz:Nat} {z:Int} {ik:IntKind} {a p:AV} (ho:o.op= .indexAddr t x i) (hu:und E t=some (.slice e)) (hs:sizeOf E e=some (sz+1)) (hx:opndL x l=some a) (hi:opndL i l=some (.int ik z)) (hz:0≤z) (hp:idxSliceV (sz+1) z.toNat a=some p):OpQ E o l p:=
 Ag (k:=z.toNat) ho hu hs hx (by rw[hi,Int.toNat_of_nonneg hz]) hp
section
variable {E : Env} {fr : Fr} {l : Sl} {st : St} {o : Oper} {all rest : List Oper} {i : Nat} {js : List Nat} {nl : News} {K : Sl → St → Prop} {od : Option Nat}
theorem RegN.look {KN:PN} {v:AV} (hq:quietSo (opC E o.type o.op)=true) (htch:∀T,Has (restr (tmpsOf o.op.operands.toList) l) T→touchOf (opC E o.type o.op) T= .all)
 (ho:OpL E o fr (restr (tmpsOf o.op.operands.toList) l) (st.sub st.heap) v (st.sub st.heap)) (hnl:(nl.all fun p=>Nat.testBit (ancOf all i) p.1)=true) (hg:GuardOn all l o) (hd:o.dst=od) (hlt:dstOk fr.nt od=true)
 (h:RegN E KN all rest (i+1) fr (putL od v l) st (i::js) nl K):RegN E KN all (o::rest) i fr l st js nl K:=by
 refine RegN.gen hq (fun T news hn hT=>⟨.inl (Qh ..),?_⟩) (fun j hj=>Qg _ hj) hg hd hlt h
 rw[htch T hT]
 have:subHeap (ancOf all i) news st.heap .all=st.heap:=hide_clear hnl hn
 rw[this]
 exact alone_of (ho T hT)
end
theorem Grown.own {s:St} {e:TypeId} {sz n:Nat} {v:AV} {cs:List AV} (h:Grown s e sz v cs n) {c:Nat} (hc:ownB c v=true):c<s.next:=by
 rcases h with⟨rfl,_⟩|⟨b,rfl,hb,_⟩
 ·cases hc
 ·have:=Qb (show Nat.beq b c=true from hc);omega
theorem over_one {v:AV}:∀ {cs:List AV} {k:Nat},k<cs.length→over [v] k cs=some (cs.set k v)
 | [],_,h=>absurd h (Nat.not_lt_zero _)
 |a::cs,0,_=>rfl
 |a::cs,k+1,h=>by
  have ih:=over_one (v:=v) (cs:=cs) (k:=k) (Nat.lt_of_succ_lt_succ h)
  show consO a (over [v] k cs)=_
  rw[ih];rfl
theorem appended_new {s:St} {b sz:Nat} {new:List AV} {e:TypeId} {part:Bool} {cap:Option Nat} (hg:s.heap.get b=some (.cells new e part)) (hnew:new.length=sz):appendedV s sz (.slice b 0 1 sz cap)=some (new,1):=by
 show(bif Nat.beq sz sz then(cellsOf? (s.heap.get b)).bind fun cs=>(dropN 0 cs).bind fun l=>(takeN (1*sz) l).bind fun l=>some (l,1)else none)=_
 rw[Nat.beq_refl,hg]
 show(takeN (1*sz) new).bind _=_
 rw[Nat.one_mul,←hnew,takeN_all];rfl
section
variable {E : Env} {fr : Fr} {l : Sl} {st : St} {o : Oper} {all rest : List Oper} {i : Nat} {js : List Nat} {nl : News} {K : Sl → St → Prop} {od : Option Nat}
end
theorem overHead_app {α:Type}:∀ {vs mid post:List α},mid.length=vs.length→overHead vs (mid++post)=some (vs++post)
 | [],[],post,_=>rfl
 |v::vs,m::mid,post,h=>by
  have ih:=overHead_app (vs:=vs) (mid:=mid) (post:=post) (Nat.succ.inj h)
  show consO v (overHead vs (mid++post))=_
  rw[ih];rfl
theorem over_app {α:Type} {vs mid post:List α} (h:mid.length=vs.length):∀ {pre:List α},over vs pre.length (pre++(mid++post))=some (pre++(vs++post))
 | []=>overHead_app h
 |a::pre=>by
  have ih:=over_app h (post:=post) (pre:=pre)
  show consO a (over vs pre.length (pre++(mid++post)))=_
  rw[ih];rfl
section
variable {E : Env} {fr : Fr} {l : Sl} {st s : St} {o : Oper} {all rest : List Oper} {i : Nat} {js : List Nat} {nl : News} {K : Sl → St → Prop} {od : Option Nat}
theorem OpL.makeSlice {t e:TypeId} {x y:Operand} {sz by_ n:Nat} {k k2:IntKind} {z:AV} (ho:o.op= .makeSlice t x y) (hu:und E t=some (.slice e)) (hs:sizeOf E e=some sz) (hb:bytesOf E e=some by_) (hz:zeroOf E e=some z) (hk:Nat.beq (len' z.cells) sz=true)
 (hx:opndL x l=some (.int k (n:Nat))) (hy:opndL y l=some (.int k2 (n:Nat))) (hn:n≠0) (hsm:small n by_=true):OpL E o fr l s (.slice s.next 0 n sz (some n)) (s.alloc (.cells (repeatA z.cells n) e false)):=fun T hT=>
 Fy (f:=fun T=>(opnd E x T).bind fun a=>(opnd E y T).bind fun b=>(natOf a).bind fun n=>(natOf b).bind fun m=>makeSliceV e sz by_ z.cells n m) (ob:= .cells (repeatA z.cells n) e false) (g:=fun b=> .slice b 0 n sz (some n)) (by
  rw[ho]
  show makeSliceC E t x y=_
  unfold makeSliceC
  rw[hu]
  simp only[hs,hb,hz,hk,cond_true]) (by
  have h1:natOf (.int k (n:Nat))=some n:=rfl
  have h2:natOf (.int k2 (n:Nat))=some n:=rfl
  have hb0:Nat.beq n 0=false:=by
   cases hb:Nat.beq n 0 with
   |false=>rfl
   |true=>exact absurd (Qb hb) hn
  simp only[Au hT hx,Au hT hy,Qe,h1,h2]
  unfold makeSliceV
  rw[Qd (Qj n),hsm,hb0];rfl)
end
section
variable {E : Env} {l : Sl} {o : Oper}
end
section
variable {E : Env} {fr : Fr} {l : Sl} {s st : St} {o : Oper} {all rest : List Oper} {i : Nat} {js : List Nat} {nl : News} {K : Sl → St → Prop} {od : Option Nat}
end
theorem merged_eq {st s2:St} (hn:st.next≤s2.next) (hlg:∀c,c<st.next→c∉s2.log→s2.heap.get c=st.heap.get c):∀c,c<s2.next→(st.merged s2).heap.get c=s2.heap.get c:=by
 intro c hc
 show(copyAll s2.heap (newL st.next (s2.next-st.next)) (copyAll s2.heap s2.log st.heap)).get c=_
 rw[BR,BR]
 by_cases h1:c∈newL st.next (s2.next-st.next)
 ·rw[if_pos h1]
 ·rw[if_neg h1]
  by_cases h2:c∈s2.log
  ·rw[if_pos h2]
  ·rw[if_neg h2]
   by_cases h3:c<st.next
   ·exact(hlg c h3 h2).symm
   ·exact absurd (newL_mem.2 ⟨by omega,by omega⟩) h1
theorem mem_put_old {s:St} {b c:Nat} {o:Option AObj} (h:c∈s.log):c∈(s.put b o).log:=by
 show c∈(bif Nat.blt b s.bound then logged b s.log else s.log)
 cases Nat.blt b s.bound with
 |false=>exact h
 |true=>
  rw[cond_true]
  cases hl:s.log with
  |nil=>rw[hl]at h;cases h
  |cons d l=>
   rw[hl]at h
   show c∈(bif Nat.beq b d then d::l else b::d::l)
   cases Nat.beq b d with
   |true=>exact h
   |false=>exact Qg _ h
def Told (s s':St):Prop:=∀d,d<s.bound→d∉s'.log→s'.heap.get d=s.heap.get d
theorem dT {p:Prop} [Decidable p] (h:decide p=true):p:=of_decide_eq_true h
theorem dF {p:Prop} [Decidable p] (h:decide p=false):¬p:=of_decide_eq_false h
theorem LL {α:Type}:(∀a b:List α,(a++b).length=a.length+b.length)∧(∀(a:α) (b:List α),(a::b).length=b.length+1)∧([]:List α).length=0∧(∀(i:Nat) (b:List α),(b.take i).length=min i b.length)∧∀(i:Nat) (b:List α),(b.drop i).length=b.length-i:=
 ⟨fun _ _=>Qm,fun _ _=>rfl,rfl,fun _ _=>List.length_take,fun _ _=>List.length_drop⟩
theorem t2 {α β:Type} {a a':α} {b b':β} (h:(a,b)=(a',b')):a=a'∧b=b':=by cases h;exact⟨rfl,rfl⟩
section
variable {E : Env} {fr : Fr} {l : Sl} {s : St} {all rest : List Oper} {o : Oper} {K : Sl → St → Prop} {Q : Ex → Fr → Sl → St → Prop} {v : AV} {s' : St} {d : Nat}
theorem Ld {KP:AV→Sl→St→Prop} (h:K l s):RegL E KP all [] fr l s K:=RegL.done h
theorem Lo {KP:AV→Sl→St→Prop} (ho:OpL E o fr l s v s') (hg:(o.guard,o.dst,Nat.blt d fr.nt)=(none,some d,true)) (h:RegL E KP all rest fr ((d,v)::l) s' K):RegL E KP all (o::rest) fr l s K:=
 RegL.op ho (t2 hg).1 (t2 (t2 hg).2).1 (t2 (t2 hg).2).2 h
theorem Lq {KP:AV→Sl→St→Prop} (ho:OpQ E o l v) (hg:(o.guard,o.dst,Nat.blt d fr.nt)=(none,some d,true)) (h:RegL E KP all rest fr ((d,v)::l) s K):RegL E KP all (o::rest) fr l s K:=
 Lo (OpL.q ho) hg h
theorem qa {KP:AV→Sl→St→Prop} {x:Operand} (hg:(o.op,opndL x l,o.guard,o.dst,Nat.blt d fr.nt)=(.assign x,some v,none,some d,true)) (h:RegL E KP all rest fr ((d,v)::l) s K):RegL E KP all (o::rest) fr l s K:=
 Lq (OpQ.assign (t2 hg).1 (t2 (t2 hg).2).1) (t2 (t2 hg).2).2 h
theorem qm {KP:AV→Sl→St→Prop} {x:Operand} (hg:(o.op,opndL x l,o.guard,o.dst,Nat.blt d fr.nt)=(.move x,some v,none,some d,true)) (h:RegL E KP all rest fr ((d,v)::l) s K):RegL E KP all (o::rest) fr l s K:=
 Lq (OpQ.move (t2 hg).1 (t2 (t2 hg).2).1) (t2 (t2 hg).2).2 h
theorem o2 {op:BinOp} {t yt:TypeId} {x y:Operand} {k:IntKind} {a b:Int} {f:IntKind→Int→Int→Option AV} (hu:und E t=some (.int k)) (ho:(o.op,intF op)=(.binOp op t x y yt,some f))
 (hx:(opndL x l,opndL y l,f k a b)=(some (.int k a),some (.int k b),some v)):OpQ E o l v:=
 OpQ.int2 (t2 ho).1 hu (t2 ho).2 (t2 hx).1 (t2 (t2 hx).2).1 (t2 (t2 hx).2).2
theorem of {t:TypeId} {x:Operand} {i off n:Nat} {agg:Bool} {b k:Nat} (hf:fieldOf E t i=some (off,n+1,agg)) (ho:(o.op,opndL x l)=(.fieldAddr t x i,some (.ptr b k))):OpQ E o l (.ptr b (k+off)):=
 OpQ.fieldAddr (t2 ho).1 hf (t2 ho).2
theorem oT {c x y:Operand} {b:Bool} (ho:(o.op,opndL c l)=(.pick c x y,some (.bool b))) (hb:b=true) (hx:opndL x l=some v):OpQ E o l v:=OpQ.pickT (t2 ho).1 (t2 ho).2 hb hx
theorem oF {c x y:Operand} {b:Bool} (ho:(o.op,opndL c l)=(.pick c x y,some (.bool b))) (hb:b=false) (hx:opndL y l=some v):OpQ E o l v:=OpQ.pickF (t2 ho).1 (t2 ho).2 hb hx
theorem oe {x:Operand} {i:Nat} {vs:List AV} (ho:(o.op,opndL x l,nth vs i)=(.extract x i,some (.tuple vs),some v)):OpQ E o l v:=OpQ.extract (t2 ho).1 (t2 (t2 ho).2).1 (t2 (t2 ho).2).2
theorem on {t:TypeId} {x:Operand} {b:Bool} (ho:(o.op,opndL x l)=(.unOp .not t x,some (.bool b))):OpQ E o l (.bool (!b)):=OpQ.not (t2 ho).1 (t2 ho).2
theorem om {x:Operand} (ho:(o.op,opndL x l)=(.move x,some v)):OpQ E o l v:=OpQ.move (t2 ho).1 (t2 ho).2
theorem oa {x:Operand} (ho:(o.op,opndL x l)=(.assign x,some v)):OpQ E o l v:=OpQ.assign (t2 ho).1 (t2 ho).2
theorem ol {c:Call} {t e:TypeId} {ts:List TypeId} {x:Operand} {cs:List AV} {n sz:Nat} {cl:Bool} (hu:und E t=some (.slice e)) (ho:(o.op,c.callee,c.argTypes.toList,c.args.toList,opndL x l)=(.call c,.builtin .len,t::ts,[x],some (.islice cs n sz cl))):
 OpQ E o l (.int .i64 (n:Nat)):=OpQ.lenSl (t2 ho).1 (t2 (t2 ho).2).1 (t2 (t2 (t2 ho).2).2).1 (t2 (t2 (t2 (t2 ho).2).2).2).1 hu (t2 (t2 (t2 (t2 ho).2).2).2).2
variable {j e : Nat} {w b : Bool} {oj : Oper}
theorem Lk {KP:AV→Sl→St→Prop} (hg:(o.guard,nth all j,oj.dst,look e l,o.dst,Nat.blt d fr.nt)=(some (j,w),some oj,some e,some (.bool b),some d,true)) (hb:b= !w) (h:RegL E KP all rest fr ((d,.tuple [])::l) s K):RegL E KP all (o::rest) fr l s K:=
 have h1:=t2 hg;have h2:=t2 h1.2;have h3:=t2 h2.2;have h4:=t2 h3.2;have h5:=t2 h4.2
 RegL.skip h1.1 h2.1 h3.1 h4.1 hb h5.1 h5.2 h
theorem Lg {KP:AV→Sl→St→Prop} (hg:(o.guard,nth all j,oj.dst,look e l,o.dst,Nat.blt d fr.nt)=(some (j,w),some oj,some e,some (.bool b),some d,true)) (hb:b=w) (ho:OpL E o fr l s v s') (h:RegL E KP all rest fr ((d,v)::l) s' K):RegL E KP all (o::rest) fr l s K:=
 have h1:=t2 hg;have h2:=t2 h1.2;have h3:=t2 h2.2;have h4:=t2 h3.2;have h5:=t2 h4.2
 RegL.go h1.1 h2.1 h3.1 h4.1 hb ho h5.1 h5.2 h
theorem Lh {KP:AV→Sl→St→Prop} (hg:(o.guard,nth all j,oj.dst,look e l,o.dst,Nat.blt d fr.nt)=(some (j,w),some oj,some e,some (.bool b),some d,true)) (hb:b=w) (ho:OpQ E o l v) (h:RegL E KP all rest fr ((d,v)::l) s K):RegL E KP all (o::rest) fr l s K:=
 Lg hg hb (OpL.q ho) h
theorem Lb {KP:AV→Sl→St→Prop} (hg:(o.guard,nth all j,oj.dst,look e l)=(some (j,w),some oj,some e,some (.bool b))) (h1:b=true→RegL E KP all (o::rest) fr l s K) (h0:b=false→RegL E KP all (o::rest) fr l s K):RegL E KP all (o::rest) fr l s K:=
 have h2:=t2 hg;have h3:=t2 h2.2;have h4:=t2 h3.2
 RegL.both h2.1 h3.1 h4.1 h4.2 h1 h0
theorem Es {k:Nat} {ops:Array Oper} {b:Code} (h:RegL E (fun v l s=>Q (.panic v) fr l s) ops.toList ops.toList fr l s fun l s=>EvtL E b fr l s Q):EvtL E (.seq (.region k ops false) b) fr l s Q:=EvtL.seqReg h
theorem Ec {x:Operand} {a b:Code} {t:Bool} (hx:opndL x l=some (.bool t)) (h1:t=true→EvtL E a fr l s Q) (h0:t=false→EvtL E b fr l s Q):EvtL E (.cond x a b) fr l s Q:=EvtL.cond hx h1 h0
theorem Er {t:Nat} {rs:List ResultVar} {w v v':AV} {ks:List Nat} (hg:(fr.defers,s.log,s.bound,rs,look t l,frzV s 0 40 v [],underV 0 40 w)=([],[],0,[.tmp t],some v,some (w,ks),true)) (hw:w=v'):
 (Ex.ret= .ret∨Ex.ret= .normal)∧fr.defers=[]∧s.log=[]∧s.bound=0∧∃vs w ks,resultsL E s l rs=some vs∧frzV s 0 40 (oneA vs) []=some (w,ks)∧underV 0 40 w=true∧w=v':=by
 have h1:=t2 hg;have h2:=t2 h1.2;have h3:=t2 h2.2;have h4:=t2 h3.2;have h5:=t2 h4.2;have h6:=t2 h5.2
 refine⟨.inl U,h1.1,h2.1,h3.1,[v],w,ks,?_,h6.1,h6.2,hw⟩
 rw[h4.1];exact Aj h5.1 rfl
end
section
variable {E : Env} {fr : Fr} {l : Sl} {o : Oper} {n m bd : Nat} {lg : List Nat} {hl : Hl}
theorem l1 {t:TypeId} {a:Operand} {k b off:Nat} {v:AV} {cs:List AV} {e:TypeId} {part:Bool} (h1:isAgg E t=some false) (h2:sizeOf E t=some k)
 (ho:(o.op,opndL a l,lookH b hl,cs[off]?)=(.load t a,some (.ptr b off),some (.cells cs e part),some v)):OpL E o fr l (mkS n bd lg hl) v (mkS n bd lg hl):=
 have h:=t2 ho;have h':=t2 h.2;have h'':=t2 h'.2
 OpL.loadS1 h.1 h1 h2 h'.1 h''.1 h''.2
end
section
variable {E : Env} {fr : Fr} {l : Sl} {st : St} {o : Oper} {all rest : List Oper} {i : Nat} {js : List Nat} {nl : News} {K : Sl → St → Prop} {od : Option Nat} {v : AV} {j e : Nat} {w b : Bool} {oj : Oper}
theorem Nq {KN:PN} (ho:OpQ E o (restr (tmpsOf o.op.operands.toList) l) v) (hg:(o.guard,o.dst,dstOk fr.nt od)=(none,od,true)) (h:RegN E KN all rest (i+1) fr (putL od v l) st js nl K):RegN E KN all (o::rest) i fr l st js nl K:=
 RegN.qG ho (.inl (t2 hg).1) (t2 (t2 hg).2).1 (t2 (t2 hg).2).2 h
theorem Ng {KN:PN} (hg:(o.guard,nth all j,oj.dst,look e l,o.dst,dstOk fr.nt od)=(some (j,w),some oj,some e,some (.bool b),od,true)) (hb:b=w) (ho:OpQ E o (restr (tmpsOf o.op.operands.toList) l) v) (h:RegN E KN all rest (i+1) fr (putL od v l) st js nl K):RegN E KN all (o::rest) i fr l st js nl K:=
 have h1:=t2 hg;have h2:=t2 h1.2;have h3:=t2 h2.2;have h4:=t2 h3.2;have h5:=t2 h4.2
 RegN.qG ho (Bm h1.1 h2.1 h3.1 h4.1 hb) h5.1 h5.2 h
theorem Nk {KN:PN} (hg:(o.guard,nth all j,oj.dst,look e l,o.dst,dstOk fr.nt od)=(some (j,w),some oj,some e,some (.bool b),od,true)) (hb:b= !w) (h:RegN E KN all rest (i+1) fr (putL od (.tuple []) l) st js nl K):RegN E KN all (o::rest) i fr l st js nl K:=
 have h1:=t2 hg;have h2:=t2 h1.2;have h3:=t2 h2.2;have h4:=t2 h3.2;have h5:=t2 h4.2
 RegN.skip h1.1 h2.1 h3.1 h4.1 hb h5.1 h5.2 h
theorem Nt {KN:PN} (hg:(o.guard,nth all j,oj.dst,look e l,o.dst,dstOk fr.nt od)=(some (j,w),some oj,some e,some (.tuple []),od,true)) (h:RegN E KN all rest (i+1) fr (putL od (.tuple []) l) st js nl K):RegN E KN all (o::rest) i fr l st js nl K:=
 have h1:=t2 hg;have h2:=t2 h1.2;have h3:=t2 h2.2;have h4:=t2 h3.2;have h5:=t2 h4.2
 RegN.skipT h1.1 h2.1 h3.1 h4.1 h5.1 h5.2 h
end
section
variable {E : Env} {fr : Fr} {l : Sl} {st : St} {o : Oper} {all rest : List Oper} {i : Nat} {js : List Nat} {nl : News} {K : Sl → St → Prop} {od : Option Nat}
end
end Am
