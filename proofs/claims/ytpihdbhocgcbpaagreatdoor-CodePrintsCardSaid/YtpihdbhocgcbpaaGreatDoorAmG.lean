/- The abstract machine: more rules; contracts; heaps as lists; strings and builders; lists that grow; short names. -/
import Derived.Test.YtpihdbhocgcbpaaGreatDoorAmF
import Derived.ChangeReads
import Derived.ChangeArms
set_option linter.unusedSectionVars false
set_option linter.unusedVariables false
set_option linter.unusedSimpArgs false
namespace Am
open Go
section
variable (E : Env)
abbrev Rd:=Nat×Nat×(Nat→Option CB→Prop)
structure PN where
 WD:AV→St→Prop
 rl:List Rd
def wW (KN:PN) (i:Nat) (looked:Zp):Prop:=(∀e∈KN.rl,e.1<i)∧(∀p∈looked,p.1<i)∧∀p∈looked,∀e∈KN.rl,p.1=e.1→p.2.1= .block e.2.1∧∀n o,e.2.2 n o→p.2.2 n o=true
theorem wW.cons {KN:PN} {i:Nat} {looked:Zp} {bV:Touch} {re:Nat→Option CB→Bool} (h:wW KN i looked):wW KN (i+1) ((i,bV,re)::looked):=
 ⟨fun e he=>Nat.lt_succ_of_lt (h.1 e he),fun p hp=>by
  rcases Qk.1 hp with rfl|hp
  ·exact Nat.lt_succ_self _
  ·exact Nat.lt_succ_of_lt (h.2.1 p hp),fun p hp e he x=>by
  rcases Qk.1 hp with rfl|hp
  ·have:=h.1 e he;have x:i=e.1:=x;omega
  ·exact h.2.2 p hp e he x⟩
def AtN (KN:PN) (K:Sl→St→Prop) (all:List Oper) (T0:Tr AV) (ex:Ex) (l:Sl) (T:Tr AV) (s:St):Prop:=match ex with
 | .normal=>K l s∧Has l T
 | .panic v=>KN.WD v s∧T=Yy all T0
 |_=>False
def VH (KN:PN) (all rest:List Oper) (i:Nat) (fr:Fr) (l:Sl) (st:St) (js:List Nat) (nl:W8) (K:Sl→St→Prop):Prop:=
 ∀(T0 T:Tr AV) (news:W8) (looked:Zp),Has l T→(∀p∈news,p∈nl)→(∀p∈looked,p.1∈js∨p.2.1= .nothing)→wW KN i looked→
  ∃N ex l' T' s',AtN KN K all T0 ex l' T' s'∧∀n,N≤n→YC E all (ev E n) fr T0 (XM E (VL all) rest i) ⟨T,st,news,looked⟩= .one ⟨ex,fr,T',s'⟩
end
def Xe (d:Option Nat) (v:AV) (l:Sl):Sl:=match d with
 |some d=>(d,v)::l
 |none=>l
noncomputable def Ok (all:List Oper) (i:Nat):Nat:=(nth (VL all) i).getD 0
section
variable {E : Env} {fr : Fr} {l : Sl} {st : St} {o : Oper} {all rest : List Oper} {i : Nat} {js : List Nat} {nl : W8} {K : Sl → St → Prop} {od : Option Nat}
theorem Has.Xe {T:Tr AV} (h:Has l T) (d:Option Nat) (v:AV):Has (Am.Xe d v l) (bf d v T):=by
 cases d with
 |none=>exact h
 |some d=>exact h.put d v
theorem I5 {nt:Nat} {v:AV} {T:Tr AV} (C6:WA nt od=true):vC od nt v T=some (bf od v T):=by
 cases od with
 |none=>rfl
 |some d=>
  show(bif Nat.blt d nt then some (Tr.bS (some v) (pathOf d) T)else none)=_;have:Nat.blt d nt=true:=C6;rw[this];rfl
theorem F7 {nt:Nat} {d:fJ} {q:Zv} {bV:Touch} {v:AV} {H:Tr CB} (hd:d.o.dst=od) (C6:WA nt od=true):
 VF nt d q (bV,v,q.st.sub H)=some ⟨bf od v q.T,q.st,q.news,(d.i,bV,aU d q (bV,v,q.st.sub H))::q.looked⟩:=by
 unfold VF;have h1:Nat.ble q.st.next (q.st.sub H).next=true:=sK _;have h2:(q.st.sub H).next-q.st.next=0:=Nat.sub_self _;have h3:(q.st.sub H).log=[]:=rfl;simp only[h1,h2,h3,hd,I5 C6,Wp,Bool.and_self,cond_true,Qe,Yb,W5,Xi,below];rfl
theorem Au {KN:PN} (h:K l st):VH E KN all [] i fr l st js nl K:=fun T0 T news looked hT _ _ _=>⟨0,.normal,l,T,st,⟨h,hT⟩,fun _ _=>rfl⟩
def iS (ops:List Oper) (l:Sl):Sl:=l.filter fun p=>ops.all fun o=> !gv p.1 o
theorem IJ:∀ {ops:List Oper} {T:Tr AV} {k:Nat},(ops.all fun o=> !gv k o)=true→(Yy ops T).get k=T.get k
 | [],_,_,_=>rfl
 |o::ops,T,k,h=>by
  rw[List.all_cons,Qf]at h;unfold Yy;unfold gv at h;cases hd:o.dst with
  |none=>exact IJ h.2
  |some d=>
   rw[hd]at h;show(Yy ops (T.set d none)).get k=_;rw[IJ h.2,AF,if_neg];intro e;subst e;simp at h
theorem Has.clear {ops:List Oper} {T:Tr AV} (h:Has l T):Has (iS ops l) (Yy ops T):=by
 intro k v hk;have key:∀ {l:Sl},look k (iS ops l)=some v→(ops.all fun o=> !gv k o)=true∧look k l=some v:=by
  intro l;induction l with
  |nil=>intro h;cases h
  |cons p l ih=>
   intro h;unfold iS at h;rw[List.filter_cons]at h;split at h
   ·next hp=>
    unfold look at h⊢;cases hb:Nat.beq k p.1 with
    |true=>
     rw[hb]at h;have:=Qb hb;subst this;exact⟨hp,h⟩
    |false=>rw[hb]at h;exact ih h
   ·next hp=>
    obtain⟨h1,h2⟩:=ih h;refine⟨h1,?_⟩;unfold look;cases hb:Nat.beq k p.1 with
    |true=>
     have:=Qb hb;subst this;exact absurd h1 hp
    |false=>exact h2
 obtain⟨h1,h2⟩:=key hk;rw[IJ h1];exact h k v h2
theorem Bt {Q:Ex→Fr→Sl→St→Prop} {k:Nat} {ops:Array Oper} (WX:WK ops.toList=true) (h:VH E ⟨fun v s=>Q (.panic v) fr (iS ops.toList l) s,[]⟩ ops.toList ops.toList 0 fr l st [] [] (Q .normal fr)):Ch E (.region k ops true) fr l st Q:=by
 intro T hT;obtain⟨N,ex,l',T',s',hk,hr⟩:=h T T [] [] hT (fun p hp=>by cases hp) (fun p hp=>by cases hp) ⟨fun e he=>(by cases he),fun p hp=>(by cases hp),fun p hp=>by cases hp⟩;have C5:∀n,N≤n→(XC E (.region k ops true)).run (ev E n) fr T st= .one ⟨ex,fr,T',s'⟩:=by
  intro n hn;show(hQ E ops.toList true).run (ev E n) fr T st=_;unfold hQ kS;simp only[cond_true,WX];exact hr n hn
 cases ex with
 |normal=>exact⟨N,.normal,fr,l',T',s',hk.1,hk.2,C5⟩
 |panic v=>exact⟨N,.panic v,fr,_,T',s',hk.1,by rw[hk.2];exact hT.clear,C5⟩
 |exit _=>exact hk.elim
 |ret=>exact hk.elim
theorem As {Q:Ex→Fr→Sl→St→Prop} {k:Nat} {ops:Array Oper} {b:Code} (WX:WK ops.toList=true) (h:VH E ⟨fun v s=>Q (.panic v) fr (iS ops.toList l) s,[]⟩ ops.toList ops.toList 0 fr l st [] [] fun l s=>Ch E b fr l s Q):Ch E (.seq (.region k ops true) b) fr l st Q:=
 Aa (Bt WX h)
theorem Ew {ev:Ev} {T0:Tr AV} {q q':Zv} {r:Touch×AV×St} {out:Out} (h1:Wx E all ev fr (Yr E all i o) q=some r) (h2:VF fr.nt (Yr E all i o) q r=some q')
 (h:YC E all ev fr T0 (XM E (VL all) rest (i+1)) q'=out):YC E all ev fr T0 (XM E (VL all) (o::rest) i) q=out:=by
 show(match Wx E all ev fr (Yr E all i o) q with
  |some r=>match VF fr.nt (Yr E all i o) q r with
   |some q'=>YC E all ev fr T0 (XM E (VL all) rest (i+1)) q'
   |none=> .stuck
  |none=>iI E all ev fr T0 (Yr E all i o) (XM E (VL all) rest (i+1)) q (bx E all ev fr (Yr E all i o) q))=_
 rw[h1];simp only[h2];exact h
theorem runN {n:Nat} {T:Tr AV} {news:W8} {looked:Zp} {r:Touch×AV×St} (hT:Has l T) (hg:Wc all l o) (h:WS E (ev E n) fr (Yr E all i o) ⟨T,st,news,looked⟩ (Xb T (tmpsOf o.op.operands.toList) .nil)=some r):
 Wx E all (ev E n) fr (Yr E all i o) ⟨T,st,news,looked⟩=some r:=by
 unfold Wx;rcases hg with hg|⟨g,hg,hw⟩
 ·have:(Yr E all i o).o.guard=none:=hg;rw[this];exact h
 ·have:(Yr E all i o).o.guard=some g:=hg;rw[this];show(W4 all g T).bind _=_;rw[hw T hT];exact h
theorem Jw {KN:PN} {v:AV} {js':List Nat} (hq:WH (Xg E o.type o.op)=true)
 (ho:∀(T:Tr AV) (news:W8),(∀p∈news,p∈nl)→Has (VM (tmpsOf o.op.operands.toList) l) T→
  (i∈js'∨Wh (Xg E o.type o.op) T= .nothing)∧yY E o fr T v (st.sub (VP (Ok all i) news st.heap (Wh (Xg E o.type o.op) T))))
 (eu:∀j∈js,j∈js') (hg:Wc all l o) (hd:o.dst=od) (C6:WA fr.nt od=true) (h:VH E KN all rest (i+1) fr (Xe od v l) st js' nl K):VH E KN all (o::rest) i fr l st js nl K:=by
 intro T0 T news looked hT Zx gU dO;obtain⟨hj,N,hN⟩:=ho _ news Zx (hT.VM (tmpsOf o.op.operands.toList));let dd:fJ:=Yr E all i o
 let q:Zv:=⟨T,st,news,looked⟩
 let TP:=Xb T (tmpsOf o.op.operands.toList) .nil
 let bV:=Wh (Xg E o.type o.op) TP
 let H:=VP dd.CS news st.heap bV
 let re:=aU dd q (bV,v,st.sub H)
 obtain⟨M,ex,l',T',s',hk,hr⟩:=h T0 (bf od v T) news ((i,bV,re)::looked) (hT.Xe od v) Zx (fun p hp=>by
  rcases Qk.1 hp with rfl|hp
  ·exact hj
  ·exact(gU p hp).imp (eu _) id) dO.cons
 refine⟨max N M,ex,l',T',s',hk,fun n hn=>?_⟩;have bj:WS E (ev E n) fr dd q TP=some (bV,v,st.sub H):=by
  unfold WS;have:WH dd.so=true:=hq;rw[this];simp only[cond_true];show Ye bV ((WW E (Xg E o.type o.op) K0).run (ev E n) fr TP (st.sub H))=_;have h1:(WW E (Xg E o.type o.op) K0).run (ev E n) fr TP (st.sub H)= .one ⟨.normal,fr,ZO v,st.sub H⟩:=hN n (by omega);rw[h1];rfl
 have hp:=F7 (nt:=fr.nt) (d:=dd) (q:=q) (bV:=bV) (v:=v) (H:=H) (od:=od) hd C6;exact Ew (runN hT hg bj) hp (hr n (by omega))
theorem VH.off {KN:PN} {g:Nat×Bool} (hg:o.guard=some g) (hw:∀T,Has l T→W4 all g T=some false) (hd:o.dst=od) (C6:WA fr.nt od=true)
 (h:VH E KN all rest (i+1) fr (Xe od (.tuple []) l) st js nl K):VH E KN all (o::rest) i fr l st js nl K:=by
 intro T0 T news looked hT Zx gU dO;let dd:fJ:=Yr E all i o
 let q:Zv:=⟨T,st,news,looked⟩
 let re:=aU dd q (.nothing,.tuple [],st.sub .nil)
 obtain⟨M,ex,l',T',s',hk,hr⟩:=h T0 (bf od (.tuple []) T) news ((i,.nothing,re)::looked) (hT.Xe od _) Zx (fun p hp=>by
  rcases Qk.1 hp with rfl|hp
  ·exact .inr U
  ·exact gU p hp) dO.cons
 refine⟨M,ex,l',T',s',hk,fun n hn=>?_⟩;have C5:Wx E all (ev E n) fr dd q=some (.nothing,.tuple [],st.sub .nil):=by
  unfold Wx;have:dd.o.guard=some g:=hg;rw[this];show(W4 all g T).bind _=_;rw[hw T hT];rfl
 have hp:=F7 (nt:=fr.nt) (d:=dd) (q:=q) (bV:= .nothing) (v:= .tuple []) (H:= .nil) (od:=od) hd C6;exact Ew C5 hp (hr n (by omega))
theorem Vy {KN:PN} {j e:Nat} {w b:Bool} {oj:Oper} (hg:o.guard=some (j,w)) (hj:nth all j=some oj) (he:oj.dst=some e) (hl:look e l=some (.bool b)) (hb:b= !w)
 (hd:o.dst=od) (C6:WA fr.nt od=true) (h:VH E KN all rest (i+1) fr (Xe od (.tuple []) l) st js nl K):VH E KN all (o::rest) i fr l st js nl K:=
 VH.off hg (fun T hT=>by rw[Gu (g:=(j,w)) hj he (hT e _ hl),hb];cases w<;>rfl) hd C6 h
theorem SD {KN:PN} {j e:Nat} {w:Bool} {oj:Oper} (hg:o.guard=some (j,w)) (hj:nth all j=some oj) (he:oj.dst=some e) (hl:look e l=some (.tuple []))
 (hd:o.dst=od) (C6:WA fr.nt od=true) (h:VH E KN all rest (i+1) fr (Xe od (.tuple []) l) st js nl K):VH E KN all (o::rest) i fr l st js nl K:=
 VH.off hg (fun T hT=>by
  unfold W4 ZN;simp only[hj,Qe,he];show bt w (T.get e)=_;rw[hT e _ hl];rfl) hd C6 h
theorem E5 {KN:PN} {j e:Nat} {w b:Bool} {oj:Oper} (_hg:o.guard=some (j,w)) (_hj:nth all j=some oj) (_he:oj.dst=some e) (_hl:look e l=some (.bool b))
 (h1:b=true→VH E KN all (o::rest) i fr l st js nl K) (h0:b=false→VH E KN all (o::rest) i fr l st js nl K):VH E KN all (o::rest) i fr l st js nl K:=by
 cases b
 ·exact h0 U
 ·exact h1 U
theorem PT {KN:PN} {v:AV} (ho:Wj E o (VM (tmpsOf o.op.operands.toList) l) v) (hg:Wc all l o) (hd:o.dst=od) (C6:WA fr.nt od=true) (h:VH E KN all rest (i+1) fr (Xe od v l) st js nl K):VH E KN all (o::rest) i fr l st js nl K:=
 Jw ho.1 (fun T _ _ hT=>⟨.inr (ho.2 T hT).1,Jv ⟨0,fun n _ k=>(ho.2 T hT).2 (ev E n) fr _ k⟩⟩) (fun _ h=>h) hg hd C6 h
theorem Bp {KN:PN} {v:AV} (ho:OpA E o fr (VM (tmpsOf o.op.operands.toList) l) v) (hg:Wc all l o) (hd:o.dst=od) (C6:WA fr.nt od=true) (h:VH E KN all rest (i+1) fr (Xe od v l) st (i::js) nl K):VH E KN all (o::rest) i fr l st js nl K:=
 Jw ho.1 (fun T _ _ hT=>⟨.inl (Qh ..),Jv (by
  obtain⟨N,hN⟩:=ho.2 T hT;exact⟨N,fun n hn k=>hN n hn _ k⟩)⟩) (fun _ h=>Qg _ h) hg hd C6 h
def Xk (CS b:Nat) (nl:W8):Bool:=nl.all fun p=> !(Nat.beq p.2 b)||Nat.testBit CS p.1
theorem BT {CS b:Nat} (h:Xk CS b nl=true):∀ {news:W8},(∀p∈news,p∈nl)→X4 CS b news=false
 | [],_=>rfl
 |p::news,hn=>by
  unfold X4;have h1:=List.all_eq_true.1 h p (hn p (Qh ..));rw[BT h (fun q hq=>hn q (Qg _ hq))];cases hb:Nat.beq p.2 b with
  |false=>rfl
  |true=>
   rw[hb]at h1;have h2:Nat.testBit CS p.1=true:=h1;rw[h2];rfl
theorem VH.rd {KN:PN} {x:Tr AV→Option AV} {f:Tr AV→St→Option AV} {v p:AV} {b:Nat} (XX:Xg E o.type o.op= .read x f) (hx:∀T,Has (VM (tmpsOf o.op.operands.toList) l) T→x T=some p) (hp:Z5 (some p)=some b)
 (hv:∀T,Has (VM (tmpsOf o.op.operands.toList) l) T→f T (st.sub (Tr.set .nil b (st.heap.get b)))=some v) (hc:Xk (Ok all i) b nl=true) (hg:Wc all l o) (hd:o.dst=od) (C6:WA fr.nt od=true)
 (h:VH E KN all rest (i+1) fr (Xe od v l) st (i::js) nl K):VH E KN all (o::rest) i fr l st js nl K:=by
 refine Jw (by rw[XX];rfl) (fun T news Zx hT=>⟨.inl (Qh ..),?_⟩) (fun _ h=>Qg _ h) hg hd C6 h;rw[XX];have:Wh (.read x f) T= .block b:=by
  show ef (Z5 (x T))=_;rw[hx T hT,hp];rfl
 rw[this];have hs:VP (Ok all i) news st.heap (.block b)=Tr.set .nil b (st.heap.get b):=by
  show(bif X4 (Ok all i) b news then _ else _)=_;rw[BT hc Zx];rfl
 rw[hs];exact Jv ⟨0,fun n _ k=>by
  rw[XX];show Xh (fun v=>k.run (ev E n) fr T v _) (f T _)=_;rw[hv T hT];rfl⟩
theorem IT {n b off:Nat} {s s':St} (hs:s'.heap.get b=s.heap.get b):Yk s' n (.ptr b off)=Yk s n (.ptr b off):=by
 unfold Yk;simp only[hs]
theorem Pq {t:TypeId} {b off:Nat} {s s':St} (hs:s'.heap.get b=s.heap.get b):Wu E t s' (.ptr b off)=Wu E t s (.ptr b off):=by
 unfold Wu;cases isAgg E t with
 |none=>rfl
 |some g=>
  cases sizeOf E t with
  |none=>cases g<;>rfl
  |some n=>
   cases g
   ·show(Yk s' 1 _).bind _=(Yk s 1 _).bind _;rw[IT hs]
   ·show(Yk s' n _).bind _=(Yk s n _).bind _;rw[IT hs]
theorem AO {KN:PN} {t:TypeId} {a:Operand} {v:AV} {b off:Nat} (ho:o.op= .load t a) (ha:Ce a (VM (tmpsOf o.op.operands.toList) l)=some (.ptr b off))
 (hv:Wu E t st (.ptr b off)=some v) (hc:Xk (Ok all i) b nl=true) (hg:Wc all l o) (hd:o.dst=od) (C6:WA fr.nt od=true) (h:VH E KN all rest (i+1) fr (Xe od v l) st (i::js) nl K):VH E KN all (o::rest) i fr l st js nl K:=
 VH.rd (x:=Cc E a) (f:=fun T s=>(Cc E a T).bind (Wu E t s)) (b:=b) (by rw[ho];rfl) (fun T hT=>Al hT ha) rfl (fun T hT=>by
  rw[Al hT ha];exact(Pq (by show(Tr.set .nil b (st.heap.get b)).get b=_;rw[AF,if_pos rfl])).trans hv) hc hg hd C6 h
theorem O8 {KN:PN} {f:Tr AV→Option Mk} {ob:CB} {g:Nat→AV} (XX:Xg E o.type o.op= .make f) (hv:∀T,Has (VM (tmpsOf o.op.operands.toList) l) T→f T=some (.obj ob g)) (hg:Wc all l o) (hd:o.dst=od) (C6:WA fr.nt od=true)
 (h:VH E KN all rest (i+1) fr (Xe od (g st.next) l) (st.alloc ob) js ((i,st.next)::nl) K):VH E KN all (o::rest) i fr l st js nl K:=by
 intro T0 T news looked hT Zx gU dO;let dd:fJ:=Yr E all i o
 let q:Zv:=⟨T,st,news,looked⟩
 let TP:=Xb T (tmpsOf o.op.operands.toList) .nil
 let s2:St:=(st.sub .nil).alloc ob
 let re:=aU dd q (.nothing,g st.next,s2)
 obtain⟨M,ex,l',T',s',hk,hr⟩:=h T0 (bf od (g st.next) T) ((i,st.next)::news) ((i,.nothing,re)::looked) (hT.Xe od _) (fun p hp=>by
  rcases Qk.1 hp with rfl|hp
  ·exact Qh ..
  ·exact Qg _ (Zx p hp)) (fun p hp=>by
  rcases Qk.1 hp with rfl|hp
  ·exact .inr U
  ·exact gU p hp) dO.cons
 refine⟨M,ex,l',T',s',hk,fun n hn=>?_⟩;have bj:WS E (ev E n) fr dd q TP=some (.nothing,g st.next,s2):=by
  unfold WS;have aH:dd.so= .make f:=XX;have vq:WH dd.so=true:=by rw[aH];rfl
  rw[vq];simp only[cond_true];have fE:Wh dd.so TP= .nothing:=by rw[aH];rfl
  rw[fE];have Xp:(WW E (Xg E o.type o.op) K0).run (ev E n) fr TP (st.sub .nil)=K0.run (ev E n) fr TP (g (st.sub .nil).next) ((st.sub .nil).alloc ob):=by
   rw[XX];show jI _ _ (f TP)=_;rw[hv TP (hT.VM (tmpsOf o.op.operands.toList))];rfl
  show Ye .nothing ((WW E (Xg E o.type o.op) K0).run (ev E n) fr TP (st.sub .nil))=_;rw[Xp];rfl
 have ae:VF fr.nt dd q (.nothing,g st.next,s2)=some ⟨bf od (g st.next) T,st.alloc ob,(i,st.next)::news,(i,.nothing,re)::looked⟩:=by
  unfold VF;have h1:Nat.ble q.st.next s2.next=true:=Qd (Nat.le_succ _);have h3:dd.o.dst=od:=hd;have h4:Yb q.st.next (s2.next-q.st.next)=[st.next]:=by
   show Yb st.next (st.next+1-st.next)=_;rw[Nat.add_sub_cancel_left];rfl
  have h5:s2.heap.get st.next=some ob:=by
   show(Tr.set .nil st.next (some ob)).get st.next=_;rw[AF,if_pos rfl]
  have h6:s2.log=[]:=rfl;simp only[h1,h6,Wp,h3,Bool.and_self,cond_true,I5 C6,Qe,h4,Xi,W5,h5,below];rfl
 exact Ew (runN hT hg bj) ae (hr n (by omega))
theorem DQ {i:Nat} {p:Nat×Nat}:∀ {L:List Nat} {news:W8},(∀p∈news,p∈nl)→p∈Xi i news L→p∈Xi i nl L
 | [],_,hn,h=>hn _ h
 |b::L,news,hn,h=>by
  rcases Qk.1 h with rfl|h
  ·exact Qh ..
  ·exact Qg _ (DQ hn h)
def cR (CS:Nat) (js:List Nat):Bool:=js.all fun j=>Nat.testBit CS j
theorem Ik {CS b n:Nat} {ob:Option CB} (eu:cR CS js=true):∀ {L:Zp},(∀p∈L,p.1∈js∨p.2.1= .nothing)→YB CS b n ob L=true
 | [],_=>rfl
 |p::L,hL=>by
  unfold YB;have ih:=Ik (b:=b) (n:=n) (ob:=ob) eu fun q hq=>hL q (Qg _ hq);rcases hL p (Qh ..)with h1|h1
  ·have:Nat.testBit CS p.1=true:=List.all_eq_true.1 eu _ h1;rw[this];exact ih
  ·rw[h1];simp only[dD,cond_false];cases Nat.testBit CS p.1<;>exact ih
theorem O9 {KN:PN} {x:Tr AV→Option AV} {f:Tr AV→St→Option (AV×St)} {v:AV} {s2:St} {one:Bool} {bV:Touch} {H:Tr CB} (XX:Xg E o.type o.op= .act one x f)
 (fE:∀T,Has (VM (tmpsOf o.op.operands.toList) l) T→Wh (.act one x f) T=bV) (hH:∀news:W8,(∀p∈news,p∈nl)→VP (Ok all i) news st.heap bV=H)
 (ho:Ws E o fr (VM (tmpsOf o.op.operands.toList) l) (st.sub H) v s2)
 (az:st.next≤s2.next) (Wm:∀b∈s2.log,b<st.next∧Xk (Ok all i) b nl=true) (eu:cR (Ok all i) js=true)
 (hg:Wc all l o) (hd:o.dst=od) (C6:WA fr.nt od=true)
 (h:VH E KN all rest (i+1) fr (Xe od v l) (st.merged s2) (i::js) (Xi i (Xi i nl (Yb st.next (s2.next-st.next))) s2.log) K):VH E KN all (o::rest) i fr l st js nl K:=by
 intro T0 T news looked hT Zx gU dO;obtain⟨N,hN⟩:=ho _ (hT.VM (tmpsOf o.op.operands.toList));let dd:fJ:=Yr E all i o
 let q:Zv:=⟨T,st,news,looked⟩
 let TP:=Xb T (tmpsOf o.op.operands.toList) .nil
 let re:=aU dd q (bV,v,s2)
 have YI:dd.CS=Ok all i:=rfl;obtain⟨M,ex,l',T',s',hk,hr⟩:=h T0 (bf od v T) (Xi i (Xi i news (Yb st.next (s2.next-st.next))) s2.log) ((i,bV,re)::looked) (hT.Xe od v)
  (fun p hp=>DQ (fun p hp=>DQ Zx hp) hp) (fun p hp=>by
  rcases Qk.1 hp with rfl|hp
  ·exact .inl (Qh ..)
  ·exact(gU p hp).imp (Qg _) id) dO.cons
 refine⟨max N M,ex,l',T',s',hk,fun n hn=>?_⟩;have bj:WS E (ev E n) fr dd q TP=some (bV,v,s2):=by
  unfold WS;have aH:dd.so= .act one x f:=XX;have vq:WH dd.so=true:=by rw[aH];rfl
  rw[vq];simp only[cond_true];have ht:Wh dd.so TP=bV:=by rw[aH];exact fE _ (hT.VM _)
  rw[ht];have Xp:=hN n (by omega) K0;show Ye bV ((WW E (Xg E o.type o.op) K0).run (ev E n) fr TP (st.sub (VP dd.CS news st.heap bV)))=_;rw[YI,hH news Zx,Xp];rfl
 have nB:∀L:List Nat,(∀b∈L,b<st.next∧Xk (Ok all i) b nl=true)→Wp dd.CS st.next s2.next s2.heap q L=true:=by
  intro L;induction L with
  |nil=>intro _;rfl
  |cons b L ih=>
   intro hL;unfold Wp;have h1:Nat.blt b st.next=true:=by simpa[Nat.blt_eq]using(hL b (Qh ..)).1
   have h2:X4 dd.CS b q.news=false:=BT (hL b (Qh ..)).2 Zx;have h3:YB dd.CS b s2.next (s2.heap.get b) q.looked=true:=Ik eu gU;rw[h1,h2,h3,ih fun c hc=>hL c (Qg _ hc)];rfl
 have ae:VF fr.nt dd q (bV,v,s2)=some ⟨bf od v T,st.merged s2,Xi i (Xi i news (Yb st.next (s2.next-st.next))) s2.log,(i,bV,re)::looked⟩:=by
  unfold VF;have h1:Nat.ble q.st.next s2.next=true:=Qd az;have h2:Wp dd.CS q.st.next s2.next s2.heap q s2.log=true:=nB s2.log Wm;have h3:dd.o.dst=od:=hd;simp only[h1,h2,h3,Bool.and_self,cond_true,I5 C6,Qe];rfl
 exact Ew (runN hT hg bj) ae (hr n (by omega))
theorem FF {CS:Nat} (h:(nl.all fun p=>Nat.testBit CS p.1)=true) {news:W8} {hp:Tr CB} (hn:∀p∈news,p∈nl):bu CS news hp=hp:=
 Ob fun p hp=>List.all_eq_true.1 h p (hn p hp)
theorem Rr {KN:PN} {x:Tr AV→Option AV} {f:Tr AV→St→Option (AV×St)} {v:AV} {s2:St} (XX:Xg E o.type o.op= .act false x f) (ho:Ws E o fr (VM (tmpsOf o.op.operands.toList) l) (st.sub st.heap) v s2)
 (az:st.next≤s2.next) (Wm:∀b∈s2.log,b<st.next∧Xk (Ok all i) b nl=true) (eu:cR (Ok all i) js=true) (aC:(nl.all fun p=>Nat.testBit (Ok all i) p.1)=true)
 (hg:Wc all l o) (hd:o.dst=od) (C6:WA fr.nt od=true)
 (h:VH E KN all rest (i+1) fr (Xe od v l) (st.merged s2) (i::js) (Xi i (Xi i nl (Yb st.next (s2.next-st.next))) s2.log) K):VH E KN all (o::rest) i fr l st js nl K:=
 O9 (bV:= .all) XX (fun _ _=>rfl) (fun _ hn=>FF aC hn) ho az Wm eu hg hd C6 h
end
section
variable {E : Env} {fr : Fr} {l : Sl} {s : St} {o : Oper}
theorem DF {t:TypeId} {x:Operand} {v:AV} (ho:o.op= .makeInterface t x) (hi:CC E t=some false) (hx:Ce x l=some v):Wj E o l (.iface t v):=
 AJ (f:=fun T=>(Cc E x T).bind fun v=>some (.iface t v)) (by
  rw[ho];show ZL E t x=_;unfold ZL;rw[hi]) fun T hT=>by simp only[Al hT hx,Qe]
noncomputable def Yg (E:Env) (t:TypeId):Bool:=match C7 E t with
 |some (.struct _)=>true
 |_=>false
def nD (neg:Bool):BinOp:=bif neg then .neq else .eql
theorem PQ {neg:Bool} {t:TypeId} {x y:Operand} (h1:∀k,C7 E t≠some (.int k)) (h2:C7 E t≠some .string):eL E (nD neg) t x y=y4 E neg t x y:=by
 unfold eL;split
 ·next k h=>exact absurd h (h1 k)
 ·next h=>exact absurd h h2
 ·cases neg<;>rfl
theorem sL {t:TypeId} (h:CC E t=some true):∃ms,C7 E t=some (.interface ms):=by
 unfold CC at h;split at h
 ·next ms hm=>exact⟨ms,hm⟩
 ·cases h
 ·cases h
theorem Td {t:TypeId} (h:Yg E t=true):∃fs,C7 E t=some (.struct fs):=by
 unfold Yg at h;split at h
 ·next fs hm=>exact⟨fs,hm⟩
 ·cases h
theorem EF {neg:Bool} {t yt:TypeId} {x y:Operand} {a b v:AV} (ho:o.op= .binOp (nD neg) t x y yt) (hu:CC E t=some true) (hx:Ce x l=some a) (hy:Ce y l=some b)
 (hv:WE neg (eK E (isConst x||isConst y) a b)=some v):Wj E o l v:=by
 obtain⟨ms,hu⟩:=sL hu;exact AJ (f:=fun T=>(Cc E x T).bind fun a=>(Cc E y T).bind fun b=>WE neg (eK E (isConst x||isConst y) a b)) (by
  rw[ho];show eL E (nD neg) t x y=_;rw[PQ (by rw[hu];intro k h;cases h) (by rw[hu];intro h;cases h)];unfold y4;rw[hu];rfl) fun T hT=>by simp only[Al hT hx,Al hT hy,Qe,hv]
theorem DN {neg:Bool} {t yt:TypeId} {x y:Operand} {kd:Kd} {a b v:AV} (ho:o.op= .binOp (nD neg) t x y yt) (hu:Yg E t=true) (hk:Y9 E t=some kd) (hx:Ce x l=some a) (hy:Ce y l=some b)
 (hv:WE neg (ZE kd a b)=some v):Wj E o l v:=by
 obtain⟨fs,hu⟩:=Td hu;exact AJ (f:=fun T=>(Cc E x T).bind fun a=>(Cc E y T).bind fun b=>WE neg (ZE kd a b)) (by
  rw[ho];show eL E (nD neg) t x y=_;rw[PQ (by rw[hu];intro k h;cases h) (by rw[hu];intro h;cases h)];unfold y4;rw[hu];simp only[hk];rfl) fun T hT=>by simp only[Al hT hx,Al hT hy,Qe,hv]
theorem Wj.sub {t yt:TypeId} {x y:Operand} {a b:Int} (ho:o.op= .binOp .sub t x y yt) (hu:C7 E t=some (.int .i64)) (hx:Ce x l=some (.int .i64 a)) (hy:Ce y l=some (.int .i64 b))
 (h: -9223372036854775808≤a-b∧a-b<9223372036854775808):Wj E o l (.int .i64 (a-b)):=DY ho hu rfl hx hy (by rw[GL h.1 h.2])
theorem A8 {t yt:TypeId} {x y:Operand} {a b:Nat} (ho:o.op= .binOp .sub t x y yt) (hu:C7 E t=some (.int .i64)) (hx:Ce x l=some (.int .i64 (a:Nat))) (hy:Ce y l=some (.int .i64 (b:Nat)))
 (h:b≤a∧a<9223372036854775808):Wj E o l (.int .i64 ((a-b:Nat):Int)):=by
 have:=Wj.sub (o:=o) (E:=E) (l:=l) ho hu hx hy (by omega);rwa[show(a:Int)-(b:Int)=((a-b:Nat):Int) by omega]at this
theorem Wj.mul {t yt:TypeId} {x y:Operand} {a b:Int} (ho:o.op= .binOp .mul t x y yt) (hu:C7 E t=some (.int .i64)) (hx:Ce x l=some (.int .i64 a)) (hy:Ce y l=some (.int .i64 b))
 (h: -9223372036854775808≤a*b∧a*b<9223372036854775808):Wj E o l (.int .i64 (a*b)):=DY ho hu rfl hx hy (by rw[GL h.1 h.2])
theorem V7 {t:TypeId} {x:Operand} {a:Int} (ho:o.op= .unOp .neg t x) (hx:Ce x l=some (.int .i64 a)) (h: -9223372036854775808<a∧a≤9223372036854775808):Wj E o l (.int .i64 (-a)):=
 AJ (f:=fun T=>(Cc E x T).bind (qk .neg)) (by rw[ho];rfl) fun T hT=>by
  simp only[Al hT hx,Qe,qk];rw[GL (by omega) (by omega),Int.zero_sub]
theorem Hc {α:Type}:∀ {a:Nat} {l:List α},a≤l.length→WM a l=some (l.drop a)
 |0,_,_=>rfl
 |_+1,[],h=>by simp at h
 |a+1,_::l,h=>Hc (a:=a) (l:=l) (by simpa using h)
theorem Qy {α:Type}:∀ {n:Nat} {l:List α},n≤l.length→takeN n l=some (l.take n)
 |0,l,_=>by simp;rfl
 |_+1,[],h=>by simp at h
 |n+1,b::l,h=>by
  show bL b (takeN n l)=_;rw[Qy (n:=n) (l:=l) (by simpa using h)];rfl
theorem BU {t e:TypeId} {x i:Operand} {n sz k:Nat} {ik:IntKind} {cs:List AV} {v:AV} (ho:o.op= .index t x i) (hu:C7 E t=some (.array n e)) (ha:isAgg E e=some false) (hs:sizeOf E e=some sz)
 (hx:Ce x l=some (.agg cs)) (hi:Ce i l=some (.int ik (k:Nat))) (hk:k<n) (hv:cs[k*sz]?=some v):Wj E o l v:=
 AJ (f:=fun T=>(Cc E i T).bind fun iv=>(VW iv).bind fun k=>bif Nat.blt k n then(Cc E x T).bind (eI sz k)else none) (by
  rw[ho];show dY E t x i=_;unfold dY;rw[hu];simp only[ha,hs]) fun T hT=>by
  have h1:VW (.int ik (k:Nat))=some k:=rfl;have h2:Nat.blt k n=true:=by simpa[Nat.blt_eq]using hk
  simp only[Al hT hx,Al hT hi,Qe,h1,h2,cond_true,eI,EP,hv]
theorem Az {t:TypeId} {x:Operand} {i off n:Nat} {agg:Bool} {cs:List AV} (ho:o.op= .fieldAddr t x i) (hf:Cf E t i=some (off,n+1,agg)) (hx:Ce x l=some (.WO cs)) (hn:off≤cs.length):Wj E o l (.WO (cs.drop off)):=
 AJ (f:=fun T=>(Cc E x T).bind (XE off)) (by
  rw[ho];show Yv E t x i=_;unfold Yv;rw[hf]) fun T hT=>by simp only[Al hT hx,Qe,XE,Hc hn]
theorem Gm {src dst:TypeId} {x:Operand} {j k kx:IntKind} {n:Int} (ho:o.op= .convert src dst x) (hs:C7 E src=some (.int j)) (hd:C7 E dst=some (.int k)) (hx:Ce x l=some (.int kx n)):Wj E o l (Y4 k n):=
 AJ (f:=fun T=>(Cc E x T).bind (ij k)) (by
  rw[ho];show cu E src dst x=_;unfold cu;rw[hs,hd]) fun T hT=>by simp only[Al hT hx,Qe,ij]
theorem A9 {x:Operand} {t ty:TypeId} {ok:Bool} {z a v:AV} (ho:o.op= .typeAssert x ty t ok) (hi:CC E t=some false) (hz:zeroOf E t=some z) (hx:Ce x l=some a) (hv:eW t ok z a=some v):Wj E o l v:=
 AJ (f:=fun T=>(Cc E x T).bind (eW t ok z)) (by
  rw[ho];show eX E x t ok=_;unfold eX;unfold CC at hi;rw[hz];cases hu:C7 E t with
  |none=>rw[hu]at hi;cases hi
  |some d=>
   rw[hu]at hi;cases d<;>first|rfl|cases hi) fun T hT=>by simp only[Al hT hx,Qe,hv]
theorem LU {c:Call} {r:Operand} {name:String} {t:TypeId} {v w:AV} {f:FuncId} {rc:Recv} {args:List AV} {rv:AV} (ho:o.op= .call c) (hc:c.callee= .invoke r name) (ha:Xd c.args.toList l=some args) (hr:Ce r l=some (.iface t v))
 (hm:methodOf E t name=some (f,rc)) (hb:CI E f=true) (hv:aq E s v rc=some rv) (h:Cb E f (rv::args) s w):Ws E o fr l s w s:=fun T hT=>
 bY.call (F:=fun T s=>(CO E c.args.toList T).bind fun args=>(Cc E r T).bind (Z4 E s name args)) (by
  rw[ho];show VV E o.type c=_;unfold VV;rw[hc]) (by simp only[B4 hT ha,Al hT hr,Qe,Z4,hm,hb,cond_true,hv]) h
theorem PX {t k e:TypeId} (ho:o.op= .makeMap t none) (hu:C7 E t=some (.map k e)):Ws E o fr l s (.map s.next) (s.alloc (.map [] 0)):=fun T _=>
 FQ (f:=fun _=>some (.obj (.map [] 0) .map)) (by
  rw[ho];show cA E t none=_;unfold cA;rw[hu]) rfl
theorem SJ {t k e:TypeId} {kd:Kd} {m x y:Operand} {p a b:AV} {s':St} (ho:o.op= .mapUpdate t m x y∨o.op= .insert t m x y) (hu:C7 E t=some (.map k e)) (hk:Y9 E k=some kd) (hm:Ce m l=some p) (hx:Ce x l=some a) (hy:Ce y l=some b)
 (hs:de kd s a b p=some s'):Ws E o fr l s (.tuple []) s':=fun T hT=>
 Hj (b:=true) (x:=Cc E m) (f:=fun T s=>(Cc E m T).bind fun a=>(Cc E x T).bind fun b=>(Cc E y T).bind fun c=>ai (de kd s b c a)) (by
  have:Xg E o.type o.op=dh E t m x y:=by rcases ho with ho|ho<;>rw[ho]<;>rfl
  rw[this];unfold dh;rw[hu];simp only[hk]) (by simp only[Al hT hm,Al hT hx,Al hT hy,Qe,hs,ai])
theorem SK {t k e:TypeId} {kd:Kd} {x i:Operand} {ok:Bool} {z p a v:AV} (ho:o.op= .lookup t x i ok) (hu:C7 E t=some (.map k e)) (hz:zeroOf E e=some z) (hk:Y9 E k=some kd) (hx:Ce x l=some p) (hi:Ce i l=some a)
 (hv:eP kd s ok z p a=some v):Ws E o fr l s v s:=fun T hT=>
 GI (x:=Cc E x) (f:=fun T s=>(Cc E x T).bind fun a=>(Cc E i T).bind fun b=>eP kd s ok z a b) (by
  rw[ho];show eQ E t x i ok=_;unfold eQ;rw[hu];simp only[hz,hk]) (by simp only[Al hT hx,Al hT hi,Qe,hv])
variable {st : St} {all rest : List Oper} {i : Nat} {js : List Nat} {nl : W8} {K : Sl → St → Prop} {od : Option Nat}
end
noncomputable def ey {α:Type} (enc:α→List AV) (res:α→AV) (args:List AV):Option AV:=by
 classical exact if h:∃a,enc a=args then some (res h.choose)else none
theorem RG {α:Type} {enc:α→List AV} {res:α→AV} (hw:∀a b,enc a=enc b→res a=res b) (a:α):ey enc res (enc a)=some (res a):=by
 have h:∃b,enc b=enc a:=⟨a,rfl⟩
 unfold ey;rw[dif_pos h,hw _ _ h.choose_spec]
theorem J9 {α:Type} {enc:α→List AV} {res:α→AV} {args:List AV} {v:AV} (h:ey enc res args=some v):∃a,enc a=args∧res a=v:=by
 unfold ey at h;split at h
 ·next he=>cases h;exact⟨_,he.choose_spec,rfl⟩
 ·cases h
theorem OX {α:Type} {enc:α→List AV} {res:α→AV} {args:List AV} (h:∀a,enc a≠args):ey enc res args=none:=by
 unfold ey;rw[dif_neg];rintro⟨a,ha⟩;exact h a ha
noncomputable def Wa {α:Type} (K:FuncId→List AV→Option AV) (f:FuncId) (enc:α→List AV) (res:α→AV):FuncId→List AV→Option AV:=fun g args=>bif Nat.beq g f then ey enc res args else K g args
theorem A3 {α:Type} {K:FuncId→List AV→Option AV} {f:FuncId} {enc:α→List AV} {res:α→AV} (hw:∀a b,enc a=enc b→res a=res b) (a:α):Wa K f enc res f (enc a)=some (res a):=by
 unfold Wa;rw[Nat.beq_refl];exact RG hw a
theorem KK {α:Type} {K:FuncId→List AV→Option AV} {f:FuncId} {enc:α→List AV} {res:α→AV} {args:List AV} (h:∀a,enc a≠args):Wa K f enc res f args=none:=by
 unfold Wa;rw[Nat.beq_refl];exact OX h
theorem BO {α:Type} {P:Program} {K:FuncId→List AV→Option AV} {f:FuncId} {enc:α→List AV} {res:α→AV} (hK:CK P K) (h:∀a,VG P f (enc a) (res a)):CK P (Wa K f enc res):=by
 intro g args v hv;unfold Wa at hv;cases hb:Nat.beq g f with
 |false=>rw[hb]at hv;exact hK g args v hv
 |true=>
  rw[hb]at hv;have:=Qb hb;subst this;obtain⟨a,rfl,rfl⟩:=J9 hv;exact h a
theorem Do {α:Type} {P:Program} {nt nf mask:Nat} {K:FuncId→List AV→Option AV} {f:FuncId} {enc:α→List AV} {res:α→AV} (hp:X8 P nt nf) (hK:CK P K) (h:∀a,Cb (lk P nt nf mask K) f (enc a) S0 (res a))
 (ha:∀a,(enc a).all (Cr 40)=true) (hv:∀a,Cr 40 (res a)=true):CK P (Wa K f enc res):=
 BO hK fun a=>DT hp hK (h a) (ha a) (hv a)
abbrev Hl:=List (Nat×Option CB)
def cS:Nat→Hl→Option CB
 |_,[]=>none
 |k,p::l=>bif Nat.beq k p.1 then p.2 else cS k l
noncomputable def mkH:Hl→Tr CB
 | []=> .nil
 |p::l=>(mkH l).set p.1 p.2
noncomputable def WZ (n bd:Nat) (lg:List Nat) (hl:Hl):St:= {next:=n,bound:=bd,log:=lg,heap:=mkH hl}
theorem UL (k:Nat):∀hl:Hl,(mkH hl).get k=cS k hl
 | []=>Bs k
 |p::l=>by
  show((mkH l).set p.1 p.2).get k=bif Nat.beq k p.1 then p.2 else cS k l;rw[AF,UL k l];cases hb:Nat.beq k p.1 with
  |true=>rw[if_pos (Qb hb)];rfl
  |false=>rw[if_neg (Nat.ne_of_beq_eq_false hb)];rfl
theorem DD {n bd:Nat} {lg:List Nat} {hl:Hl} (k:Nat):(WZ n bd lg hl).heap.get k=cS k hl:=UL k hl
def logB (b bd:Nat) (lg:List Nat):List Nat:=bif Nat.blt b bd then Xt b lg else lg
section
variable {E : Env} {fr : Fr} {l : Sl} {o : Oper} {n m bd : Nat} {lg : List Nat} {hl : Hl}
theorem Bc {t:TypeId} {z:AV} (m:Nat) (ho:o.op= .alloc t) (hz:zeroOf E t=some z) (hm:n+1=m):Ws E o fr l (WZ n bd lg hl) (.ptr n 0) (WZ m bd lg ((n,some (.cells z.cells t false))::hl)):=by
 subst hm;exact Ws.alloc ho hz
theorem A4 {t:TypeId} {x:Operand} {v:AV} (m:Nat) (ho:o.op= .box t x) (hx:Ce x l=some v) (hv:v.isTuple=false) (hm:n+1=m):Ws E o fr l (WZ n bd lg hl) (.ptr n 0) (WZ m bd lg ((n,some (.cells v.cells t false))::hl)):=by
 subst hm;exact PY ho hx hv
theorem AK {t:TypeId} {a x:Operand} {k b off:Nat} {v:AV} {cs XS:List AV} {e:TypeId} {part:Bool} (ho:o.op= .store t a x) (hn:sizeOf E t=some k) (ha:Ce a l=some (.ptr b off)) (hx:Ce x l=some v)
 (hg:cS b hl=some (.cells cs e part)) (hk:v.cells.length=k) (ht:v.isTuple=false) (hc:over v.cells off cs=some XS):Ws E o fr l (WZ n bd lg hl) (.tuple []) (WZ n bd (logB b bd lg) ((b,some (.cells XS e part))::hl)):=
 Ws.store ho hn ha hx (AB ((DD b).trans hg) hk ht hc)
theorem SL {t:TypeId} {a:Operand} {k b off:Nat} {v:AV} {cs:List AV} {e:TypeId} {part:Bool} (ho:o.op= .load t a) (h1:isAgg E t=some false) (h2:sizeOf E t=some k) (ha:Ce a l=some (.ptr b off))
 (hg:cS b hl=some (.cells cs e part)) (hv:cs[off]?=some v):Ws E o fr l (WZ n bd lg hl) v (WZ n bd lg hl):=
 A2 ho ha (Aj h1 h2 ((DD b).trans hg) hv)
theorem AA {t:TypeId} {a:Operand} {k b off:Nat} {cs:List AV} {e:TypeId} {part:Bool} (ho:o.op= .load t a) (h1:isAgg E t=some true) (h2:sizeOf E t=some k) (ha:Ce a l=some (.ptr b off))
 (hg:cS b hl=some (.cells cs e part)) (hk:off+k≤cs.length):Ws E o fr l (WZ n bd lg hl) (.agg ((cs.drop off).take k)) (WZ n bd lg hl):=
 A2 ho ha (Eh h1 h2 ((DD b).trans hg) hk)
theorem Fk {t e:TypeId} {len sz:Nat} {parts:Array (Nat×Operand)} {z:AV} {ps:List (Nat×AV)} {cs:List AV} (m:Nat) (ho:o.op= .buildSlice t (len+1) parts) (hu:C7 E t=some (.slice e)) (hs:sizeOf E e=some sz) (hz:zeroOf E e=some z)
 (hk:(Nat.beq (W6 z.cells) sz&&Nat.ble ((len+1)*sz) 16777216&& !(Nat.beq sz 0))=true) (hq:gm parts.toList l=some ps) (hf:ZC (fun i=>some (i*sz,sz)) ps (WQ z.cells (len+1))=some cs) (hm:n+1=m):
 Ws E o fr l (WZ n bd lg hl) (.slice n 0 (len+1) sz (some (len+1))) (WZ m bd lg ((n,some (.cells cs e false))::hl)):=by
 subst hm;exact Br ho hu hs hz hk hq hf
theorem OJ {t k e:TypeId} (m:Nat) (ho:o.op= .makeMap t none) (hu:C7 E t=some (.map k e)) (hm:n+1=m):Ws E o fr l (WZ n bd lg hl) (.map n) (WZ m bd lg ((n,some (.map [] 0))::hl)):=by
 subst hm;exact PX ho hu
theorem AH {t yt:TypeId} {x y:Operand} {a b:List UInt8} (ho:o.op= .binOp .add t x y yt) (hu:C7 E t=some .string) (hx:Ce x l=some (.str a)) (hy:Ce y l=some (.str b)) (h:a.length+b.length≤4294967296):Wj E o l (.str (a++b)):=
 Bd ho hu rfl hx hy (by
  simp only[D1];rw[Qd h];rfl)
theorem sM {f:FuncId} {v w:AV} {ks:List Nat} {st:St} (hf:E.nX f=1) (Wm:st.log=[]) (hb:st.bound=0) (h:CH st 0 40 v []=some (w,ks)) (hu:Cz 0 40 w=true):leave E f S0 v st=some (.same w):=by
 unfold leave frozen;rw[hf,Wm];simp only;show((Wb 0 v st).bind _)=_;unfold Wb;rw[h];simp only[Qe,Yx];have hk:(kill st ks).log=[]:=(My (s:=st) (ks:=ks) fun b _=>by rw[hb];exact Qo _).trans Wm;rw[hk];show some (bif Cz 0 40 w then _ else _)=_;rw[hu];rfl
theorem Aq {f:FuncId} {fn:Func} {c:Code} {args:List AV} {v:AV} {rs:List ResultVar} {fr:Fr} {l0:Sl} (hz:E.nX f=1) (hm:E.Cs f args=none) (hf:E.fns.get f=some fn) (hc:fn.body=some c) (hr:fn.results.toList=rs)
 (bO:frame fn.ntmps args none=fr) (hl:ZU 0 args []=l0)
 (h:Ch E c fr l0 (WZ 0 0 [] []) fun ex fr l st=>(ex= .ret∨ex= .normal)∧fr.defers=[]∧st.log=[]∧st.bound=0∧∃vs w ks,CT E st l rs=some vs∧CH st 0 40 (ZM vs) []=some (w,ks)∧Cz 0 40 w=true∧w=v):Cb E f args S0 v:=
 LV hm hf hc hr bO hl (Ch.mono (s:=S0.enter) h fun ex fr l st ⟨h1,h2,h3,h4,vs,w,ks,h5,h6,h7,h8⟩=>⟨h1,st,by rw[h2];rfl,vs,h5,by rw[←h8];exact sM hz h3 h4 h6 h7⟩)
theorem T3 {a t k b:Nat} {rs:List ResultVar} {vs cs:List AV} {e:TypeId} {part:Bool} (hp:look a l=some (.ptr b 0)) (h1:isAgg E t=some true) (h2:sizeOf E t=some k) (hg:cS b hl=some (.cells cs e part)) (hk:k≤cs.length)
 (h:CT E (WZ n bd lg hl) l rs=some vs):CT E (WZ n bd lg hl) l (.cell a t::rs)=some (.agg (cs.take k)::vs):=by
 have hv:Wu E t (WZ n bd lg hl) (.ptr b 0)=some (.agg ((cs.drop 0).take k)):=Eh h1 h2 ((DD b).trans hg) (by omega);unfold CT;rw[hp];simp only[Qe,hv,h];rfl
variable {all rest : List Oper} {i : Nat} {js : List Nat} {nl : W8} {K : Sl → St → Prop} {od : Option Nat}
theorem A6 {KN:PN} {t:TypeId} {a:Operand} {k b off:Nat} {v:AV} {cs:List AV} {e:TypeId} {part:Bool} (ho:o.op= .load t a) (h1:isAgg E t=some false) (h2:sizeOf E t=some k) (ha:Ce a (VM (tmpsOf o.op.operands.toList) l)=some (.ptr b off))
 (hg:cS b hl=some (.cells cs e part)) (hv:cs[off]?=some v) (hc:Xk (Ok all i) b nl=true) (lL:Wc all l o) (hd:o.dst=od) (C6:WA fr.nt od=true)
 (h:VH E KN all rest (i+1) fr (Xe od v l) (WZ n bd lg hl) (i::js) nl K):VH E KN all (o::rest) i fr l (WZ n bd lg hl) js nl K:=
 AO ho ha (Aj h1 h2 ((DD b).trans hg) hv) hc lL hd C6 h
end
theorem GJ {E:Env} {o:Oper} {l:Sl} {src dst:TypeId} {x:Operand} {j kx:IntKind} {n:Int} (ho:o.op= .convert src dst x) (hs:C7 E src=some (.int j)) (hd:C7 E dst=some (.int .i64)) (hx:Ce x l=some (.int kx n)) (h: -9223372036854775808≤n∧n<9223372036854775808):Wj E o l (.int .i64 n):=by
 have:=Gm (E:=E) (l:=l) ho hs hd hx;rwa[GL h.1 h.2]at this
theorem Ah {E:Env} {fr:Fr} {l:Sl} {s:St} {Q:Ex→Fr→Sl→St→Prop} {x:Operand} {a b:Code} {t:Bool} (hx:Ce x l=some (.bool t)) (ht:t=true) (h:Ch E a fr l s Q):Ch E (.cond x a b) fr l s Q:=
 KT hx (fun _=>h) fun h0=>by rw[ht]at h0;cases h0
theorem Af {E:Env} {fr:Fr} {l:Sl} {s:St} {Q:Ex→Fr→Sl→St→Prop} {x:Operand} {a b:Code} {t:Bool} (hx:Ce x l=some (.bool t)) (ht:t=false) (h:Ch E b fr l s Q):Ch E (.cond x a b) fr l s Q:=
 KT hx (fun h0=>by rw[ht]at h0;cases h0) fun _=>h
theorem AS {b:Bool} {x y:Prop} (hb:b=true) (h:x):cond b x y:=by subst hb;exact h
theorem nT {p:Prop} [Decidable p] (h:(!decide p)=true):¬p:=by simpa using h
theorem nF {p:Prop} [Decidable p] (h:(!decide p)=false):p:=by simpa using h
theorem bT {a b:List UInt8} (h:Wo a b=true):a=b:=of_decide_eq_true (Bu.symm.trans h)
theorem bF {a b:List UInt8} (h:Wo a b=false):a≠b:=of_decide_eq_false (Bu.symm.trans h)
theorem bnT {a b:List UInt8} (h:(!Wo a b)=true):a≠b:=bF (by simpa using h)
theorem bnF {a b:List UInt8} (h:(!Wo a b)=false):a=b:=bT (by simpa using h)
theorem FB {b:Bool} (h:(!b)=true):b=false:=by simpa using h
theorem FC {b:Bool} (h:(!b)=false):b=true:=by simpa using h
section
variable (E : Env)
def Yc (f:FuncId) (rs:List ResultVar) (s0:St) (R:AV→St→Prop) (ex:Ex) (fr:Fr) (l:Sl) (st:St):Prop:=
 (ex= .ret∨ex= .normal)∧∃Zw,dB fr.defers st=some Zw∧∃vs,CT E Zw l rs=some vs∧∃cr,leave E f s0 (ZM vs) Zw=some cr∧match cr with
  | .same v=>R v s0
  | .val v s'=>R v s'
  | .WD _ _=>False
def VK (f:FuncId) (args:List AV) (s:St) (R RP:AV→St→Prop):Prop:=
 ∃N cr,(∀n,N≤n→We E (ev E n) f args s=some cr)∧match cr with
  | .same v=>R v s
  | .val v s'=>R v s'
  | .WD v s'=>RP v s'
def pC (f:FuncId) (rs:List ResultVar) (s0:St) (R RP:AV→St→Prop) (ex:Ex) (fr:Fr) (l:Sl) (st:St):Prop:=match ex with
 | .panic v=>fr.defers=[]∧RP v (s0.back st)
 |ex=>Yc E f rs s0 R ex fr l st
end
section
variable {E : Env} {fr Xz : Fr} {l l' : Sl} {o : Oper} {n m bd : Nat} {lg lg' : List Nat} {hl gK : Hl} {all rest : List Oper} {K : Sl → St → Prop} {f : FuncId} {rs : List ResultVar} {R : AV → St → Prop} {ex : Ex}
theorem Wf.toX {s:St} {args:List AV} {RP:AV→St→Prop} (h:Wf E f args s R):VK E f args s R RP:=by
 obtain⟨N,cr,h1,h2⟩:=h;refine⟨N,cr,h1,?_⟩;cases cr with
 |same v=>exact h2
 |val v s'=>exact h2
 |WD v s'=>exact h2.elim
theorem VK.mono {s:St} {args:List AV} {RP R' RP':AV→St→Prop} (h:VK E f args s R RP) (h1:∀v s,R v s→R' v s) (h2:∀v s,RP v s→RP' v s):VK E f args s R' RP':=by
 obtain⟨N,cr,h0,h⟩:=h;refine⟨N,cr,h0,?_⟩;cases cr with
 |same v=>exact h1 _ _ h
 |val v s'=>exact h1 _ _ h
 |WD v s'=>exact h2 _ _ h
theorem VK.gen {s:St} {fn:Func} {c:Code} {args:List AV} {RP:AV→St→Prop} {jZ:Fr} {l0:Sl} (hm:E.Cs f args=none) (hf:E.fns.get f=some fn) (hc:fn.body=some c) (hr:fn.results.toList=rs)
 (bO:frame fn.ntmps args none=jZ) (hl:ZU 0 args []=l0) (h:Ch E c jZ l0 s.enter (pC E f rs s R RP)):VK E f args s R RP:=by
 subst bO hl hr;obtain⟨N,ex,Xz,l',T',s',hq,YP,b9⟩:=h _ (E2 args 0 (Has.nil .nil));have key:∀ {m:Option AV} {Zw:St} {cr:CR},cD ex=some m→(∀n,unwind E (ev E n) Xz.defers m s'=some (m,Zw))→endWith E f fn s T' m Zw=some cr→∀n,N+1≤n→We E (ev E n) f args s=some cr:=by
  intro m Zw cr fC hu he n hn;obtain⟨k,rfl⟩:∃k,n=k+1:=⟨n-1,by omega⟩
  unfold We;rw[hm];simp only[hf,hc,Qe];rw[H6,b9 k (by omega)];show YY E (ev E (k+1)) f fn s ⟨ex,Xz,T',s'⟩=_;unfold YY;simp only[fC,Qe,hu,he]
 have val:Yc E f fn.results.toList s R ex Xz l' s'→VK E f args s R RP:=fun⟨hex,Zw,hu,vs,Wk,cr,hlv,hR⟩=>
  Wf.toX ⟨N+1,cr,key (by rcases hex with h|h<;>rw[h]<;>rfl) (fun n=>GM hu) (by simp only[endWith,DC YP Wk,Qe,hlv]),hR⟩
 cases ex with
 |panic v=>
  obtain⟨hd,hp⟩:=hq;exact⟨N+1,.WD v (s.back s'),key U (fun n=>by rw[hd];rfl) U,hp⟩
 |normal=>exact val hq
 |ret=>exact val hq
 |exit i=>exact val hq
theorem VK.inl {fn:Func} {cb:Code} {args:List AV} {jZ:Fr} {l0:Sl} {RP:AV→St→Prop} (hm:E.Cs f args=none) (hf:E.fns.get f=some fn) (kV:fn.body=some cb) (hr:fn.results.toList=rs) (bO:frame fn.ntmps args none=jZ) (X9:ZU 0 args []=l0)
 (h:Ch E cb jZ l0 (WZ n n [] hl) (pC E f rs (WZ n bd lg hl) R RP)):VK E f args (WZ n bd lg hl) R RP:=
 VK.gen hm hf kV hr bO X9 h
theorem Dv {s0 st:St} {RP:AV→St→Prop} (h:Yc E f rs s0 R .ret fr l st):pC E f rs s0 R RP .ret fr l st:=h
theorem HB {s0 st:St} {RP:AV→St→Prop} (h:Yc E f rs s0 R .normal fr l st):pC E f rs s0 R RP .normal fr l st:=h
theorem Rs {KP:AV→Sl→St→Prop} {s:St} {d:Nat} (hg:o.guard=none) (hd:o.dst=some d) (C6:Nat.blt d fr.nt=true)
 (h:∀T,Has l T→(∃v s',bY E o fr T s v s'∧VE E KP all rest fr ((d,v)::l) s' K)∨∃v s',KP v l s'∧∃N,∀n,N≤n→∀k:mT,(WW E (Xg E o.type o.op) k).run (ev E n) fr T s= .one ⟨.panic v,fr,T,s'⟩):VE E KP all (o::rest) fr l s K:=by
 intro T hT;rcases h T hT with⟨v,s',ho,h⟩|⟨v,s',hk,N,hN⟩
 ·obtain⟨N,ho⟩:=ho;obtain⟨M,ex,l',T',s2,hk,YP,hr⟩:=h _ (hT.put d v);refine⟨max N M,ex,l',T',s2,hk,YP,fun n hn=>?_⟩;show(YL E all o (Y5 o.dst (Zo E all rest))).run (ev E n) fr T s=_;unfold YL guarded;rw[hg];simp only;rw[ho n (by omega),D4 _ _ (by rw[hd];exact C6),hd];exact hr n (by omega)
 ·refine⟨N,.panic v,l,T,s',hk,hT,fun n hn=>?_⟩;show(YL E all o (Y5 o.dst (Zo E all rest))).run (ev E n) fr T s=_;unfold YL guarded;rw[hg];exact hN n hn _
theorem VE.raise {KP:AV→Sl→St→Prop} {s:St} {x:Operand} {t:TypeId} {v:AV} (ho:o.op= .panic x) (hx:Ce x l=some (.iface t v)) (hg:o.guard=none) (h:KP (.iface t v) l s):VE E KP all (o::rest) fr l s K:=by
 intro T hT;refine⟨0,.panic (.iface t v),l,T,s,h,hT,fun n _=>?_⟩;show(YL E all o (Y5 o.dst (Zo E all rest))).run (ev E n) fr T s=_;unfold YL guarded;rw[hg,ho];show Xh (fun v=> .one ⟨.panic v,fr,T,s⟩) ((Cc E x T).bind kK)=_;rw[Al hT hx];rfl
theorem OA {KP:AV→Sl→St→Prop} {s:St} {d:Nat} {F:Tr AV→St→Option (FuncId×List AV)} {g:FuncId} {args:List AV} (XX:Xg E o.type o.op= .call F) (hF:∀T,Has l T→F T s=some (g,args)) (hg:o.guard=none) (hd:o.dst=some d) (C6:Nat.blt d fr.nt=true)
 (h:VK E g args s (fun v s'=>VE E KP all rest fr ((d,v)::l) s' K) fun v s'=>KP v l s'):VE E KP all (o::rest) fr l s K:=by
 obtain⟨N,cr,hr,hm⟩:=h;refine Rs hg hd C6 fun T hT=>?_;have key:∀n,N≤n→∀k:mT,(WW E (Xg E o.type o.op) k).run (ev E n) fr T s=Xy fr T s (k.run (ev E n) fr T) (some cr):=fun n hn k=>by
  rw[XX];show Xy fr T s (k.run (ev E n) fr T) ((F T s).bind fun p=>We E (ev E n) p.1 p.2 s)=_;rw[hF T hT];simp only[Qe];rw[hr n hn]
 cases cr with
 |same v=>exact .inl ⟨v,s,⟨N,key⟩,hm⟩
 |val v s'=>exact .inl ⟨v,s',⟨N,key⟩,hm⟩
 |WD v s'=>exact .inr ⟨v,s',hm,N,key⟩
theorem SH {KP:AV→Sl→St→Prop} {s:St} {d:Nat} {F:Tr AV→Option AV} {A:Tr AV→Option (List AV)} {g:FuncId} {first captured args:List AV} (XX:Xg E o.type o.op= .ZB F A) (hF:∀T,Has l T→F T=some (.func (.func g) first captured)) (hA:∀T,Has l T→A T=some args) (hb:CI E g=true)
 (hg:o.guard=none) (hd:o.dst=some d) (C6:Nat.blt d fr.nt=true) (h:VK E g (first++args++captured) s (fun v s'=>VE E KP all rest fr ((d,v)::l) s' K) fun v s'=>KP v l s'):VE E KP all (o::rest) fr l s K:=by
 obtain⟨N,cr,hr,hm⟩:=h;refine Rs hg hd C6 fun T hT=>?_;have key:∀n,N≤n→∀k:mT,(WW E (Xg E o.type o.op) k).run (ev E n) fr T s=Xy fr T s (k.run (ev E n) fr T) (some cr):=fun n hn k=>by
  rw[XX];show Xy fr T s (k.run (ev E n) fr T) ((F T).bind fun g=>(A T).bind fun args=>Ya E (ev E n) args s g)=_;rw[hF T hT,hA T hT];simp only[Qe,Ya,hb,cond_true];rw[hr n hn]
 cases cr with
 |same v=>exact .inl ⟨v,s,⟨N,key⟩,hm⟩
 |val v s'=>exact .inl ⟨v,s',⟨N,key⟩,hm⟩
 |WD v s'=>exact .inr ⟨v,s',hm,N,key⟩
theorem A0 {KP:AV→Sl→St→Prop} {s:St} {c:Call} {args:List AV} {d:Nat} (ho:o.op= .call c) (hc:c.callee= .value (.func f)) (hb:CI E f=true) (ha:Xd c.args.toList l=some args) (hg:o.guard=none) (hd:o.dst=some d)
 (C6:Nat.blt d fr.nt=true) (h:VK E f args s (fun v s'=>VE E KP all rest fr ((d,v)::l) s' K) fun v s'=>KP v l s'):VE E KP all (o::rest) fr l s K:=
 OA (F:=fun T _=>(CO E c.args.toList T).bind fun args=>some (f,args)) (by
  rw[ho];show VV E o.type c=_;unfold VV;rw[hc];simp only[hb,cond_true]) (fun T hT=>by rw[B4 hT ha];rfl) hg hd C6 h
theorem HA {KP:AV→Sl→St→Prop} {s:St} {c:Call} {t:Nat} {first captured args xs:List AV} {d:Nat} (hb:CI E f=true) (ho:o.op= .call c) (hc:c.callee= .value (.tmp t)) (hv:look t l=some (.func (.func f) first captured)) (ha:Xd c.args.toList l=some args) (hg:o.guard=none) (hd:o.dst=some d)
 (C6:Nat.blt d fr.nt=true) (hx:first++args++captured=xs) (h:VK E f xs s (fun v s'=>VE E KP all rest fr ((d,v)::l) s' K) fun v s'=>KP v l s'):VE E KP all (o::rest) fr l s K:=by
 subst hx;refine SH (F:=Cc E (.tmp t)) (A:=CO E c.args.toList) ?_ (fun T hT=>hT t _ hv) (fun T hT=>B4 hT ha) hb hg hd C6 h;rw[ho];show VV E o.type c=_;unfold VV;rw[hc]
theorem VK.unit {s:St} {fn:Func} {c:Code} {args:List AV} {RP:AV→St→Prop} {jZ:Fr} {l0:Sl} (hm:E.Cs f args=none) (hf:E.fns.get f=some fn) (hc:fn.body=some c) (hr:fn.results.toList=[])
 (bO:frame fn.ntmps args none=jZ) (hl:ZU 0 args []=l0) (h:Ch E c jZ l0 s.enter fun ex fr _ st=>match ex with
  | .panic v=>fr.defers=[]∧RP v (s.back st)
  |ex=>(ex= .ret∨ex= .normal)∧fr.defers=[]∧(st.log=[]→R (.tuple []) s)∧R (.tuple []) (s.back st)):VK E f args s R RP:=by
 refine VK.gen hm hf hc hr bO hl (Ch.mono h fun ex fr l st hq=>?_);have pX:frozen E f s (.tuple []) st=some (.tuple [],st):=by
  unfold frozen Wb;split
  ·rfl
  ·split<;>rfl
  ·rfl
 have val:(ex= .ret∨ex= .normal)∧fr.defers=[]∧(st.log=[]→R (.tuple []) s)∧R (.tuple []) (s.back st)→Yc E f [] s R ex fr l st:=fun⟨hex,hd,hR0,hR1⟩=>by
  refine⟨hex,st,by rw[hd];rfl,[],rfl,Yx s (.tuple []) st st.log,?_,?_⟩
  ·unfold leave;show(frozen E f s (.tuple []) st).bind _=_;rw[pX];rfl
  ·unfold Yx;cases Wm:st.log with
   |nil=>exact hR0 Wm
   |cons a b=>exact hR1
 cases ex with
 |panic v=>exact hq
 |normal=>exact val hq
 |ret=>exact val hq
 |exit i=>exact val hq
theorem B8 {KP:AV→Sl→St→Prop} {c:Call} {args:List AV} {d:Nat} {fn:Func} {cb:Code} {jZ:Fr} {l0:Sl} (hf:E.fns.get f=some fn) (hb:CI E f=true) (ho:o.op= .call c) (hc:c.callee= .value (.func f)) (ha:Xd c.args.toList l=some args) (hg:o.guard=none) (hd:o.dst=some d) (C6:Nat.blt d fr.nt=true)
 (hm:E.Cs f args=none) (kV:fn.body=some cb) (hr:fn.results.toList=rs) (bO:frame fn.ntmps args none=jZ) (X9:ZU 0 args []=l0)
 (h:Ch E cb jZ l0 (WZ n n [] hl) (pC E f rs (WZ n bd lg hl) (fun v s'=>VE E KP all rest fr ((d,v)::l) s' K) fun v s'=>KP v l s')):VE E KP all (o::rest) fr l (WZ n bd lg hl) K:=
 A0 ho hc hb ha hg hd C6 (VK.inl hm hf kV hr bO X9 h)
theorem V2 {KP:AV→Sl→St→Prop} {s:St} {d:Nat} {F:Tr AV→Option AV} {A:Tr AV→Option (List AV)} {g:FuncId} {first captured args:List AV} (XX:Xg E o.type o.op= .ZB F A) (hF:∀T,Has l T→F T=some (.func (.func g) first captured)) (hA:∀T,Has l T→A T=some args) (hb:CI E g=true)
 (hg:o.guard=none) (hd:o.dst=some d) (C6:Nat.blt d fr.nt=true) (h:Wf E g (first++args++captured) s fun v s'=>VE E KP all rest fr ((d,v)::l) s' K):VE E KP all (o::rest) fr l s K:=by
 obtain⟨N,cr,hr,hm⟩:=h;refine Rt (fun T hT=>?_) hg hd C6;have key:∀n,N≤n→((F T).bind fun g=>(A T).bind fun args=>Ya E (ev E n) args s g)=some cr:=fun n hn=>by
  rw[hF T hT,hA T hT];simp only[Qe,Ya,hb,cond_true];exact hr n hn
 cases cr with
 |same v=>exact⟨v,s,⟨N,fun n hn k=>by
  rw[XX];show Xy fr T s (k.run (ev E n) fr T) ((F T).bind fun g=>(A T).bind fun args=>Ya E (ev E n) args s g)=_;rw[key n hn];rfl⟩,hm⟩
 |val v s'=>exact⟨v,s',⟨N,fun n hn k=>by
  rw[XX];show Xy fr T s (k.run (ev E n) fr T) ((F T).bind fun g=>(A T).bind fun args=>Ya E (ev E n) args s g)=_;rw[key n hn];rfl⟩,hm⟩
 |WD _ _=>exact hm.elim
theorem Gk {KP:AV→Sl→St→Prop} {c:Call} {r:Operand} {name:String} {t:TypeId} {v rv:AV} {rc:Recv} {args:List AV} {d:Nat} {fn:Func} {cb:Code} {jZ:Fr} {l0:Sl} (hf:E.fns.get f=some fn) (hme:methodOf E t name=some (f,rc)) (hb:CI E f=true) (ho:o.op= .call c) (hc:c.callee= .invoke r name) (ha:Xd c.args.toList l=some args) (kY:Ce r l=some (.iface t v))
 (hv:aq E (WZ n bd lg hl) v rc=some rv) (hg:o.guard=none) (hd:o.dst=some d) (C6:Nat.blt d fr.nt=true) (hm:E.Cs f (rv::args)=none) (kV:fn.body=some cb) (hr:fn.results.toList=rs) (bO:frame fn.ntmps (rv::args) none=jZ) (X9:ZU 0 (rv::args) []=l0)
 (h:Ch E cb jZ l0 (WZ n n [] hl) (pC E f rs (WZ n bd lg hl) (fun v s'=>VE E KP all rest fr ((d,v)::l) s' K) fun v s'=>KP v l s')):VE E KP all (o::rest) fr l (WZ n bd lg hl) K:=by
 refine OA (F:=fun T s=>(CO E c.args.toList T).bind fun args=>(Cc E r T).bind (Z4 E s name args)) (g:=f) (args:=rv::args) ?_ (fun T hT=>?_) hg hd C6 (VK.inl hm hf kV hr bO X9 h)
 ·rw[ho];show VV E o.type c=_;unfold VV;rw[hc]
 ·simp only[B4 hT ha,Al hT kY,Qe,Z4,hme,hb,cond_true,hv]
theorem Yc.val {vs:List AV} {b:Nat} {lg1 lg2:List Nat} (hd:Xz.defers=[]) (hr:CT E (WZ m n (b::lg1) gK) l' rs=some vs) (hz:E.nX f=1) (YR:below bd (b::lg1) lg=lg2) (h:R (ZM vs) (WZ m bd lg2 gK)):Yc E f rs (WZ n bd lg hl) R .ret Xz l' (WZ m n (b::lg1) gK):=by
 subst YR;refine⟨.inl U,WZ m n (b::lg1) gK,by rw[hd];rfl,vs,hr,.val (ZM vs) (WZ m bd (below bd (b::lg1) lg) gK),?_,h⟩;unfold leave frozen;rw[hz];rfl
theorem Yc.same {vs:List AV} {w:AV} {ks:List Nat} (hd:Xz.defers=[]) (hr:CT E (WZ m n [] gK) l' rs=some vs) (hz:E.nX f=1) (hf:CH (WZ m n [] gK) n 40 (ZM vs) []=some (w,ks)) (hks:ks.all (fun b=>Nat.ble n b)=true) (hu:Cz n 40 w=true)
 (h:R w (WZ n bd lg hl)):Yc E f rs (WZ n bd lg hl) R .ret Xz l' (WZ m n [] gK):=by
 refine⟨.inl U,WZ m n [] gK,by rw[hd];rfl,vs,hr,.same w,?_,h⟩;unfold leave frozen;rw[hz];show((Wb n (ZM vs) (WZ m n [] gK)).bind _)=_;unfold Wb;rw[hf];simp only[Qe,Yx];have hk:(kill (WZ m n [] gK) ks).log=[]:=My (s:=WZ m n [] gK) (ks:=ks) fun b hb=>Qc (List.all_eq_true.1 hks b hb);rw[hk];show some (bif Cz n 40 w then _ else _)=_;rw[hu];rfl
def killH:List Nat→Hl→Hl
 | [],hl=>hl
 |b::ks,hl=>killH ks ((b,none)::hl)
theorem Fl {st:St} (h:Yc E f rs (WZ n bd lg hl) R .ret Xz l' st):Yc E f rs (WZ n bd lg hl) R .normal Xz l' st:=⟨.inr rfl,h.2⟩
theorem Ag {a b:Bool} (h:a=b):ZM [AV.bool a]=AV.bool b:=by rw[h];rfl
end
section
variable {E : Env} {fr : Fr} {l : Sl} {s : St} {o : Oper}
theorem Ws.look {f:Tr AV→St→Option AV} {v:AV} (XX:Xg E o.type o.op= .look f) (hv:∀T,Has l T→f T s=some v):Ws E o fr l s v s:=fun T hT=>⟨0,fun n _ k=>by
 rw[XX];show Xh (fun v=>k.run (ev E n) fr T v s) (f T s)=_;rw[hv T hT];rfl⟩
theorem Wj.same {x:Operand} {v:AV} (XX:Xg E o.type o.op= .pure (Cc E x)) (hx:Ce x l=some v):Wj E o l v:=AJ XX fun _ hT=>Al hT hx
theorem KQ {x:Operand} {g:AV→Option AV} {a v:AV} (XX:Xg E o.type o.op= .pure fun T=>(Cc E x T).bind g) (hx:Ce x l=some a) (hv:g a=some v):Wj E o l v:=AJ XX fun T hT=>by rw[Al hT hx];exact hv
theorem OG {x:Operand} {g:St→AV→Option AV} {a v:AV} (XX:Xg E o.type o.op= .read (Cc E x) fun T s=>(Cc E x T).bind (g s)) (hx:Ce x l=some a) (hv:g s a=some v):Ws E o fr l s v s:=fun T hT=>
 GI XX (by rw[Al hT hx];exact hv)
theorem V8 {f:Tr AV→Option Mk} {v:AV} (XX:Xg E o.type o.op= .make f) (hv:∀T,Has l T→f T=some (.val v)):Wj E o l v:=by
 refine⟨by rw[XX];rfl,fun T hT=>⟨by rw[XX];rfl,fun ev fr s k=>?_⟩⟩;rw[XX];show jI s (k.run ev fr T) (f T)=_;rw[hv T hT];rfl
theorem Ar {x:Operand} {a v:AV} (ho:o.op= .nilCheck x) (hx:Ce x l=some a) (hv:lZ E a=some v):Wj E o l v:=KQ (g:=lZ E) (by rw[ho];rfl) hx hv
theorem VA {c:Call} {t e:TypeId} {ts:List TypeId} {x:Operand} {a v:AV} (ho:o.op= .call c) (hc:c.callee= .builtin .cap) (ht:c.argTypes.toList=t::ts) (ha:c.args.toList=[x]) (hu:C7 E t=some (.slice e)) (hx:Ce x l=some a) (hv:oW a=some v):Wj E o l v:=
 KQ (g:=oW) (by
  rw[ho];show VV E o.type c=_;unfold VV;rw[hc];simp only;rw[ht,ha];show qo E t x=_;unfold qo;rw[hu]) hx hv
theorem KR {neg:Bool} {t yt e:TypeId} {k:Nat} {x y:Operand} {a b v:AV} (ho:o.op= .binOp (nD neg) t x y yt) (hu:C7 E t=some (.pointer e)) (hs:sizeOf E e=some (k+1)) (hx:Ce x l=some a) (hy:Ce y l=some b)
 (hv:WE neg (cp s a b)=some v):Ws E o fr l s v s:=
 Ws.look (f:=fun T s=>(Cc E x T).bind fun a=>(Cc E y T).bind fun b=>WE neg (cp s a b)) (by
  rw[ho];show eL E (nD neg) t x y=_;rw[PQ (by rw[hu];intro k h;cases h) (by rw[hu];intro h;cases h)];unfold y4;rw[hu];simp only[hs]) fun T hT=>by simp only[Al hT hx,Al hT hy,Qe,hv]
theorem OF {src dst t:TypeId} {k:Nat} {x:Operand} {a v:AV} (ho:o.op= .convert src dst x) (hs:C7 E src=some (.pointer t)) (hd:C7 E dst=some .unsafePointer) (hz:sizeOf E t=some (k+1)) (hx:Ce x l=some a) (hv:Am.aJ s a=some v):Ws E o fr l s v s:=
 OG (g:=fun s=>Am.aJ s) (by
  rw[ho];show cu E src dst x=_;unfold cu;rw[hs,hd];simp only[hz]) hx hv
theorem Ll {src dst u:TypeId} {k:Nat} {x:Operand} {a v:AV} (ho:o.op= .convert src dst x) (hs:C7 E src=some .unsafePointer) (hd:C7 E dst=some (.pointer u)) (hz:sizeOf E u=some (k+1)) (hx:Ce x l=some a) (hv:Am.YX E s u a=some v):Ws E o fr l s v s:=
 OG (g:=fun s=>Am.YX E s u) (by
  rw[ho];show cu E src dst x=_;unfold cu;rw[hs,hd];simp only[hz]) hx hv
theorem Ws.copy {c:Call} {t e:TypeId} {sz:Nat} {ts:List TypeId} {x y:Operand} {a b v:AV} {p:List AV×Nat} {s':St} (ho:o.op= .call c) (hc:c.callee= .builtin .copy) (ht:c.argTypes.toList=t::ts) (ha:c.args.toList=[x,y]) (hu:C7 E t=some (.slice e)) (hs:sizeOf E e=some sz)
 (hx:Ce x l=some a) (hy:Ce y l=some b) (hp:WG s sz b=some p) (hv:copyV s sz p a=some (v,s')):Ws E o fr l s v s':=fun T hT=>
 Hj (b:=false) (x:=Cc E x) (f:=fun T s=>(Cc E x T).bind fun a=>(Cc E y T).bind fun b=>(WG s sz b).bind fun p=>copyV s sz p a) (by
  rw[ho];show VV E o.type c=_;unfold VV;rw[hc];simp only;rw[ht,ha];show lV E t x y=_;unfold lV;rw[hu];simp only[hs]) (by simp only[Al hT hx,Al hT hy,Qe,hp,hv])
theorem IQ {t e:TypeId} {x:Operand} {lo hi:Option Operand} {sz:Nat} {yW yX:Option AV} {a v:AV} (ho:o.op= .slice t x lo hi none) (hu:C7 E t=some (.slice e)) (hs:sizeOf E e=some sz) (hx:Ce x l=some a) (ji:er lo l=some yW) (hZ:er hi l=some yX)
 (hv:W7 s sz yW yX none a=some v):Ws E o fr l s v s:=fun T hT=>
 GI (x:=Cc E x) (f:=fun T s=>(Cc E x T).bind fun a=>(WI E lo T).bind fun l=>(WI E hi T).bind fun h=>(WI E none T).bind fun m=>W7 s sz l h m a) (by
  rw[ho];show bo E t x lo hi none=_;unfold bo;rw[hu];simp only[hs]) (by
  have hm:WI E none T=some none:=rfl;simp only[Al hT hx,FA hT ji,FA hT hZ,hm,Qe,hv])
end
theorem DX:∀w:List UInt8,(byteCells w).length=w.length
 | []=>rfl
 |_::w=>by show(byteCells w).length+1=_;rw[DX w];rfl
theorem Iy:∀a b:List UInt8,byteCells (a++b)=byteCells a++byteCells b
 | [],_=>rfl
 |c::a,b=>by show _::byteCells (a++b)=_::(byteCells a++byteCells b);rw[Iy a b]
theorem FL:∀w:List UInt8,WR (byteCells w)=some w
 | []=>rfl
 |c::w=>by
  show(WR (byteCells w)).bind _=_;rw[FL w];show some (UInt8.ofNat (c.toNat:Int).toNat::w)=_;rw[Int.toNat_natCast,UInt8.ofNat_toNat]
theorem Sn {b c:Nat}:∀ {lg:List Nat},c∈Xt b lg→c∈lg∨c=b
 | [],h=> .inr (Qp.1 h)
 |d::lg,h=>by
  change c∈(bif Nat.beq b d then d::lg else b::d::lg)at h;cases hb:Nat.beq b d with
  |true=>rw[hb]at h;exact .inl h
  |false=>
   rw[hb]at h;rcases Qk.1 h with h|h
   ·exact .inr h
   ·exact .inl h
theorem H2 {s:St} {b c:Nat} {o:Option CB} (h:c∈(s.put b o).log):c∈s.log∨(c=b∧c<s.bound):=by
 have h':c∈(bif Nat.blt b s.bound then Xt b s.log else s.log):=h;cases hb:Nat.blt b s.bound with
 |false=>rw[hb]at h';exact .inl h'
 |true=>
  rw[hb]at h';rcases Sn h' with h|h
  ·exact .inl h
  ·exact .inr ⟨h,by rw[h];exact Qc hb⟩
theorem HX {n c:Nat}:∀ {L l:List Nat},c∈below n L l→c∈l∨(c∈L∧c<n)
 | [],_,h=> .inl h
 |b::L,l,h=>by
  unfold below at h;cases hb:Nat.blt b n with
  |true=>
   rw[hb]at h;rcases Qk.1 h with h|h
   ·exact .inr ⟨by rw[h];exact Qh ..,by rw[h];exact Qc hb⟩
   ·exact(HX h).imp id fun⟨h1,h2⟩=>⟨Qg _ h1,h2⟩
  |false=>
   rw[hb]at h;exact(HX h).imp id fun⟨h1,h2⟩=>⟨Qg _ h1,h2⟩
theorem Uu {b:Nat} {lg:List Nat}:Xt b lg≠ []:=by
 cases lg with
 |nil=>exact fun h=>by cases h
 |cons c lg=>
  show(bif Nat.beq b c then c::lg else b::c::lg)≠ [];cases Nat.beq b c<;>simp
theorem F8 {s:St} {b:Nat} {o:Option CB} (h:b<s.bound):(s.put b o).log≠ []:=by
 show(bif Nat.blt b s.bound then Xt b s.log else s.log)≠ [];rw[show Nat.blt b s.bound=true from Qd h];exact Uu
def YJ (s:St) (e:TypeId) (v:AV) (w:List UInt8):Prop:=
 (v= .Ca∧w=[])∨(∃b,v= .slice b 0 0 1 (some 0)∧w=[]∧b<s.next∧s.heap.get b=some (.cells [] e true))∨
  ∃b,v= .slice b 0 w.length 1 none∧w≠ []∧b<s.next∧s.heap.get b=some (.cells (byteCells w) e true)
theorem YJ.CW {s s':St} {e:TypeId} {v:AV} {w:List UInt8} (h:YJ s e v w) (hn:s.next≤s'.next) (hh:∀c,Ci c v=true→s'.heap.get c=s.heap.get c):YJ s' e v w:=by
 rcases h with h|⟨b,rfl,hw,hb,hg⟩|⟨b,rfl,hw,hb,hg⟩
 ·exact .inl h
 ·exact .inr (.inl ⟨b,rfl,hw,by omega,(hh b (Nat.beq_refl b)).trans hg⟩)
 ·exact .inr (.inr ⟨b,rfl,hw,by omega,(hh b (Nat.beq_refl b)).trans hg⟩)
theorem YJ.own {s:St} {e:TypeId} {v:AV} {w:List UInt8} (h:YJ s e v w) {c:Nat} (hc:Ci c v=true):c<s.next:=by
 rcases h with⟨rfl,_⟩|⟨b,rfl,_,hb,_⟩|⟨b,rfl,_,hb,_⟩
 ·cases hc
 ·have:=Qb (show Nat.beq b c=true from hc);omega
 ·have:=Qb (show Nat.beq b c=true from hc);omega
theorem YJ.append {s:St} {e:TypeId} {v:AV} {w x:List UInt8} (h:YJ s e v w) (Y1:w.length+x.length≤1099511627776):
 ∃v' s',CA s e 1 1 (byteCells x) x.length v=some (v',s')∧YJ s' e v' (w++x)∧s.next≤s'.next∧s'.bound=s.bound∧(∀c,Ci c v'=true→Ci c v=true∨c=s.next)∧
  (∀c∈s'.log,c∈s.log∨(c<s.bound∧Ci c v=true))∧∀c,c<s.next→Ci c v=false→s'.heap.get c=s.heap.get c:=by
 cases x with
 |nil=>
  refine⟨v,s,?_,?_,Qj _,rfl,fun c hc=> .inl hc,fun _ h=> .inl h,fun _ _ _=>rfl⟩
  ·rcases h with⟨rfl,_⟩|⟨b,rfl,_⟩|⟨b,rfl,_⟩<;>rfl
  ·rw[List.append_nil];exact h
 |cons x0 x=>
  have hk:Nat.beq (x0::x).length 0=false:=rfl;have hle:(x0::x).length=x.length+1:=rfl;have nG:∀n:Nat,n≤1099511627776→small n 1=true:=fun n hn=>by
   unfold small;rw[Nat.mul_one,Qd hn];rfl
  have hlen:(byteCells (x0::x)).length=(x0::x).length:=DX _;rcases h with⟨rfl,rfl⟩|⟨b,rfl,rfl,hb,hg⟩|⟨b,rfl,hw,hb,hg⟩
  ·refine⟨.slice s.next 0 (x0::x).length 1 none,s.alloc (.cells (byteCells (x0::x)) e true),?_,.inr (.inr ⟨s.next,rfl,by simp,Nat.lt_succ_self _,by show(s.heap.set s.next _).get s.next=_;rw[AF,if_pos rfl];rfl⟩),Nat.le_succ _,rfl,
    fun c hc=> .inr (Qb (show Nat.beq s.next c=true from hc)).symm,fun _ h=> .inl h,fun c hc _=>by show(s.heap.set s.next _).get c=_;rw[AF,if_neg (by omega)]⟩
   unfold CA;simp only[hk,nG _ (show(x0::x).length≤_ by simpa using Y1),cond_false,cond_true]
  ·have YD:eT 1 0 (x0::x).length (some 0) ([]:List AV)=false:=by
    show Nat.ble (0+(x.length+1)) 0=false;rw[Nat.zero_add];rfl
   refine⟨.slice s.next 0 (x0::x).length 1 none,(s.put b none).alloc (.cells (byteCells (x0::x)) e true),?_,.inr (.inr ⟨s.next,rfl,by simp,Nat.lt_succ_self _,by show((s.heap.set b none).set s.next _).get s.next=_;rw[AF,if_pos rfl];rfl⟩),Nat.le_succ _,rfl,
    fun c hc=> .inr (Qb (show Nat.beq s.next c=true from hc)).symm,fun c hc=>(H2 (s:=s) (b:=b) (o:=none) hc).imp id fun⟨h1,h2⟩=>⟨h2,by rw[h1];exact Nat.beq_refl b⟩,fun c hc hn=>?_⟩
   ·have hd:WM 0 ([]:List AV)=some []:=rfl;have ht:takeN (0*1) ([]:List AV)=some []:=rfl;unfold CA;simp only[hk,Nat.beq_refl,nG _ (show(x0::x).length≤_ by simpa using Y1),hg,cond_false,cond_true,Bool.and_self,YA,ZH,hd,YD,Qe,Bool.true_or,ht,Xx,bM,List.nil_append,Nat.zero_add]
   ·have kV:c≠b:=fun h=>by
     rw[h,show Ci b (.slice b 0 0 1 (some 0))=true from Nat.beq_refl b]at hn;cases hn
    show((s.heap.set b none).set s.next _).get c=_;rw[AF,if_neg (by omega),AF,if_neg kV]
  ·have hwl:0<w.length:=by cases w with|nil=>exact absurd rfl hw|cons _ _=>simp
   have lM:=DX w;have YD:eT 1 w.length (x0::x).length none (byteCells w)=false:=by
    show Nat.ble ((w.length+(x.length+1))*1) (W6 (byteCells w))=false;rw[D1,lM,Nat.mul_one];cases hc:Nat.ble (w.length+(x.length+1)) w.length with
    |false=>rfl
    |true=>have:=Qc hc;omega
   refine⟨.slice s.next 0 (w.length+(x0::x).length) 1 none,(s.put b none).alloc (.cells (byteCells w++byteCells (x0::x)) e true),?_,
    .inr (.inr ⟨s.next,by rw[Qm],by simp,Nat.lt_succ_self _,by show((s.heap.set b none).set s.next _).get s.next=_;rw[AF,if_pos rfl,Iy]⟩),Nat.le_succ _,rfl,
    fun c hc=> .inr (Qb (show Nat.beq s.next c=true from hc)).symm,fun c hc=>(H2 (s:=s) (b:=b) (o:=none) hc).imp id fun⟨h1,h2⟩=>⟨h2,by rw[h1];exact Nat.beq_refl b⟩,fun c hc hn=>?_⟩
   ·have hd:WM 0 (byteCells w)=some (byteCells w):=rfl;have ht:takeN (w.length*1) (byteCells w)=some (byteCells w):=by rw[Nat.mul_one,Qy (by omega),List.take_of_length_le (by omega)]
    unfold CA;simp only[hk,Nat.beq_refl,nG _ Y1,hg,cond_false,cond_true,Bool.and_self,YA,ZH,hd,YD,Qe,Bool.true_or,ht,Xx,bM]
   ·have kV:c≠b:=fun h=>by
     rw[h,show Ci b (.slice b 0 w.length 1 none)=true from Nat.beq_refl b]at hn;cases hn
    show((s.heap.set b none).set s.next _).get c=_;rw[AF,if_neg (by omega),AF,if_neg kV]
theorem YJ.text {E:Env} {s:St} {e:TypeId} {v:AV} {w:List UInt8} (h:YJ s e v w) (hb:isByte E e=true):∃d s',qt v=some d∧dj s E e w.length d=some (.str w,s')∧s'.next=s.next∧s'.bound=s.bound∧(∀c∈s'.log,c∈s.log∨(c<s.bound∧Ci c v=true))∧
 (∀c,Ci c v=false→s'.heap.get c=s.heap.get c)∧ao v=some (.int .i64 (w.length:Nat)):=by
 rcases h with⟨rfl,rfl⟩|⟨b,rfl,rfl,hY,hg⟩|⟨b,rfl,hw,hY,hg⟩
 ·exact⟨.ab,s,rfl,rfl,rfl,rfl,fun _ h=> .inl h,fun _ _=>rfl,rfl⟩
 ·exact⟨.ab,s,rfl,rfl,rfl,rfl,fun _ h=> .inl h,fun _ _=>rfl,rfl⟩
 ·obtain⟨k,hk⟩:∃k,w.length=k+1:=by cases w with|nil=>exact absurd rfl hw|cons _ t=>exact⟨t.length,rfl⟩
  refine⟨.ptr b 0,s.put b none,by rw[hk];rfl,?_,rfl,rfl,fun c hc=>(H2 (s:=s) (b:=b) (o:=none) hc).imp id fun⟨h1,h2⟩=>⟨h2,by rw[h1];exact Nat.beq_refl b⟩,fun c hc=>?_,rfl⟩
  ·have hz:Nat.beq w.length 0=false:=by rw[hk];rfl
   show(bif Nat.beq w.length 0 then _ else cz s E e b 0 w.length (s.heap.get b))=_;rw[hz,hg];show(bif Nat.beq e e&&isByte E e then(cut (byteCells w) 0 w.length).bind _ else _)=_;rw[Nat.beq_refl,hb,Hu (by rw[DX];omega),List.drop_zero,List.take_of_length_le (by rw[DX];exact Qj _)];simp only[Bool.and_self,cond_true,Qe,FL]
  ·have kV:c≠b:=fun h=>by
    rw[h,show Ci b (.slice b 0 w.length 1 none)=true from Nat.beq_refl b]at hc;cases hc
   show(s.heap.set b none).get c=_;rw[AF,if_neg kV]
theorem Ez {E:Env} {f:FuncId} {v:AV} {s st:St} (hf:E.nX f=1) (hl:st.log≠ []):leave E f s v st=some (.val v (s.back st)):=by
 cases Wm:st.log with
 |nil=>exact absurd Wm hl
 |cons b lg=>
  unfold leave frozen;rw[hf,Wm];simp only[Qe,Yx,Wm]
theorem AL {s:St} {b c:Nat} {o:Option CB}:(s.put b o).heap.get c=if c=b then o else s.heap.get c:=AF ..
structure CL (s s':St) (own:Nat→Prop):Prop where
 next:s.next≤s'.next
 bound:s'.bound=s.bound
 log:∀c∈s'.log,c∈s.log∨(c<s.bound∧own c)
 heap:∀c,c<s.next→¬own c→s'.heap.get c=s.heap.get c
theorem CL.trans {s s1 s2:St} {o1 o2 own:Nat→Prop} (h:CL s s1 o1) (h2:CL s1 s2 o2) (e1:∀c,o1 c→own c) (e2:∀c,o2 c→own c∨s.next≤c) (hb:s.bound≤s.next):CL s s2 own:=
 ⟨Nat.le_trans h.next h2.next,h2.bound.trans h.bound,fun c hc=>by
  rcases h2.log c hc with hc|⟨hc,ho⟩
  ·exact(h.log c hc).imp id fun⟨a,b⟩=>⟨a,e1 _ b⟩
  ·rw[h.bound]at hc;rcases e2 c ho with ho|ho
   ·exact .inr ⟨hc,ho⟩
   ·omega,fun c hc ho=>by
  have h1:¬o2 c:=fun h=>by
   rcases e2 c h with h|h
   ·exact ho h
   ·omega
  exact(h2.heap c (Nat.lt_of_lt_of_le hc h.next) h1).trans (h.heap c hc fun h=>ho (e1 c h))⟩
theorem CL.back {s st:St} {own:Nat→Prop} (h:CL s.enter st own):CL s (s.back st) own:=
 ⟨h.next,rfl,fun c hc=>by
  rcases HX (show c∈below s.bound st.log s.log from hc)with hc|⟨hc,C6⟩
  ·exact .inl hc
  ·rcases h.log c hc with h|⟨_,ho⟩
   ·cases h
   ·exact .inr ⟨C6,ho⟩,h.heap⟩
theorem CL.put {s:St} {b:Nat} {o:Option CB}:CL s (s.put b o) (fun c=>c=b):=
 ⟨Qj _,rfl,fun c hc=>(H2 hc).imp id fun⟨h1,h2⟩=>⟨h2,h1⟩,fun c _ ho=>by rw[AL,if_neg ho]⟩
theorem QH {c:Nat}:∀ {n b:Nat},c∈Yb b n→b≤c
 |0,_,h=>by cases h
 |n+1,b,h=>by
  rcases Qk.1 h with rfl|h
  ·exact Qj _
  ·have:=QH h;omega
theorem CL.merged {st s2:St} {own:Nat→Prop} (h:CL (st.sub st.heap) s2 own):CL st (st.merged s2) own:=
 ⟨h.next,rfl,fun c hc=>by
  rcases HX (show c∈below st.bound s2.log st.log from hc)with hc|⟨hc,C6⟩
  ·exact .inl hc
  ·rcases h.log c hc with h1|⟨_,h1⟩
   ·cases h1
   ·exact .inr ⟨C6,h1⟩,fun c hc ho=>by
  show(W5 s2.heap (Yb st.next (s2.next-st.next)) (W5 s2.heap s2.log st.heap)).get c=_;rw[Dc,if_neg (fun hm=>by have:=QH hm;omega),Dc];have:=h.heap c hc ho;by_cases hl:c∈s2.log
  ·rw[if_pos hl];exact this
  ·rw[if_neg hl]⟩
theorem Ep {E:Env} {l:Sl} {o:Oper} {c:Call} {t e:TypeId} {ts:List TypeId} {x:Operand} {a v:AV} (ho:o.op= .call c) (hc:c.callee= .builtin .len) (ht:c.argTypes.toList=t::ts) (ha:c.args.toList=[x]) (hu:C7 E t=some (.slice e)) (hx:Ce x l=some a) (hv:Am.ao a=some v):Wj E o l v:=
 KQ (g:=Am.ao) (by
  rw[ho];show VV E o.type c=_;unfold VV;rw[hc];simp only;rw[ht,ha];show fN E t x=_;unfold fN;rw[hu]) hx hv
theorem CL.refl {s:St} {own:Nat→Prop}:CL s s own:=⟨Qj _,rfl,fun _ h=> .inl h,fun _ _ _=>rfl⟩
theorem DS {E:Env} {f:FuncId} {v:AV} {s st:St} {R:AV→St→Prop} (hf:E.nX f=1) (hk:∀n w,CH w n 40 v []=some (v,[])) (hu:∀m,Cz m 40 v=true) (h1:st.log=[]→R v s) (h2:st.log≠ []→R v (s.back st)):
 ∃cr,leave E f s v st=some cr∧match cr with
  | .same v=>R v s
  | .val v s'=>R v s'
  | .WD _ _=>False:=by
 by_cases hl:st.log=[]
 ·exact⟨_,L8 hk hu hl,h1 hl⟩
 ·exact⟨_,Ez hf hl,h2 hl⟩
theorem MP {CS b c j:Nat} {nl:W8} (h:b≠c) (hn:Xk CS b nl=true):Xk CS b ((j,c)::nl)=true:=by
 unfold Xk at hn⊢;rw[List.all_cons,hn,Bool.and_true];cases hb:Nat.beq c b with
 |false=>rfl
 |true=>exact absurd (Qb hb).symm h
theorem Ox {CS b c j:Nat} {nl:W8} (h:Nat.testBit CS j=true) (hn:Xk CS b nl=true):Xk CS b ((j,c)::nl)=true:=by
 unfold Xk at hn⊢;rw[List.all_cons,hn,Bool.and_true];show(_||Nat.testBit CS j)=true;rw[h,Bool.or_true]
theorem JY {b:Nat}:∀ {lg:List Nat},b∈Xt b lg
 | []=>Qp.2 rfl
 |c::lg=>by
  show b∈(bif Nat.beq b c then c::lg else b::c::lg);cases hb:Nat.beq b c with
  |true=>rw[Qb hb];exact Qh ..
  |false=>exact Qh ..
theorem DJ {s:St} {b:Nat} {o:Option CB} (h:b<s.bound):b∈(s.put b o).log:=by
 show b∈(bif Nat.blt b s.bound then Xt b s.log else s.log);rw[show Nat.blt b s.bound=true from Qd h];exact JY
theorem Rl {n c:Nat}:∀ {L l:List Nat},c∈L→c<n→below n L l≠ []
 |b::L,l,hc,h=>by
  unfold below;cases hb:Nat.blt b n with
  |true=>simp
  |false=>
   rcases Qk.1 hc with rfl|hc
   ·rw[show Nat.blt c n=true from Qd h]at hb;cases hb
   ·exact Rl hc h
theorem MS {s st:St} {b:Nat} (hb:b∈st.log) (h:b<s.bound):(s.back st).log≠ []:=Rl hb h
theorem Ae {E:Env} {l:Sl} {o:Oper} {t e:TypeId} {x i:Operand} {sz k:Nat} {ik:IntKind} {a p:AV} (ho:o.op= .indexAddr t x i) (hu:C7 E t=some (.slice e)) (hs:sizeOf E e=some (sz+1)) (hx:Ce x l=some a) (hi:Ce i l=some (.int ik (k:Nat))) (hv:CQ (sz+1) k a=some p):Wj E o l p:=
 AJ (f:=fun T=>(Cc E i T).bind fun iv=>(VW iv).bind fun k=>(Cc E x T).bind (CQ (sz+1) k)) (by
  rw[ho];show Wy E t x i=_;unfold Wy;rw[hu];simp only[hs]) fun T hT=>by
  have h1:VW (.int ik (k:Nat))=some k:=rfl;simp only[Al hT hx,Al hT hi,Qe,h1,hv]
def Xr (s:St) (v:AV) (l:List (List UInt8)):Prop:=
 (v= .Ca∧l=[])∨(∃cl,v= .Cd (l.map .str) l.length 1 cl)∨
  ∃b off cap cs e part,v= .slice b off l.length 1 cap∧b<s.next∧s.heap.get b=some (.cells cs e part)∧off+l.length≤cs.length∧(cs.drop off).take l.length=l.map .str∧(∀c,cap=some c→l.length≤c)
theorem Xr.CW {s s':St} {v:AV} {l:List (List UInt8)} (h:Xr s v l) (hn:s.next≤s'.next) (hh:∀c,Ci c v=true→s'.heap.get c=s.heap.get c):Xr s' v l:=by
 rcases h with h|h|⟨b,off,cap,cs,e,part,rfl,hb,hg,h1,h2,h3⟩
 ·exact .inl h
 ·exact .inr (.inl h)
 ·exact .inr (.inr ⟨b,off,cap,cs,e,part,rfl,by omega,(hh b (Nat.beq_refl b)).trans hg,h1,h2,h3⟩)
theorem Xr.own {s:St} {v:AV} {l:List (List UInt8)} (h:Xr s v l) {c:Nat} (hc:Ci c v=true):c<s.next:=by
 rcases h with⟨rfl,_⟩|⟨_,rfl⟩|⟨b,off,cap,cs,e,part,rfl,hb,_⟩
 ·cases hc
 ·cases hc
 ·have:=Qb (show Nat.beq b c=true from hc);omega
theorem Xr.len {s:St} {v:AV} {l:List (List UInt8)} (h:Xr s v l):ao v=some (.int .i64 (l.length:Nat)):=by
 rcases h with⟨rfl,rfl⟩|⟨_,rfl⟩|⟨b,off,cap,cs,e,part,rfl,_⟩<;>rfl
theorem Xr.at {E:Env} {s:St} {v:AV} {l:List (List UInt8)} (h:Xr s v l) {i:Nat} (hi:i<l.length) {t:TypeId} (h1:isAgg E t=some false) (h2:sizeOf E t=some 1):∃p,CQ (0+1) i v=some p∧Wu E t s p=some (.str l[i]):=by
 have C6:Nat.blt i l.length=true:=Qd hi;have sN:(l.map AV.str).drop i= .str l[i]::(l.map AV.str).drop (i+1):=by
  rw[List.drop_eq_getElem_cons (by rw[Qn];exact hi),List.getElem_map]
 rcases h with⟨rfl,rfl⟩|⟨_,rfl⟩|⟨b,off,cap,cs,e,part,rfl,hb,hg,aB,aZ,_⟩
 ·simp at hi
 ·refine⟨.WO (.str l[i]::(l.map AV.str).drop (i+1)),?_,?_⟩
  ·show(bif Nat.blt i l.length then(WM (i*(0+1)) (l.map AV.str)).bind j9 else none)=_;rw[C6,Nat.zero_add,Nat.mul_one,Hc (by rw[Qn];omega),sN];rfl
  ·unfold Wu;simp only[h1,h2];rfl
 ·refine⟨.ptr b (off+i*(0+1)),?_,?_⟩
  ·show(bif Nat.blt i l.length then some (AV.ptr b (off+i*(0+1)))else none)=_;rw[C6];rfl
  ·refine Aj h1 h2 hg ?_;have:((cs.drop off).take l.length)[i]?=some (.str l[i]):=by rw[aZ,List.getElem?_map,Qi hi];rfl
   rw[List.getElem?_take_of_lt hi,List.getElem?_drop]at this;rw[Nat.zero_add,Nat.mul_one];exact this
theorem Xr.tail {s:St} {v:AV} {a b:List UInt8} {l:List (List UInt8)} (h:Xr s v (a::b::l)):∃v',W7 s 1 (some (.int .i64 ((1:Nat):Int))) none none v=some v'∧Xr s v' (b::l)∧(∀c,Ci c v'=true→Ci c v=true):=by
 rcases h with⟨_,h⟩|⟨cl,rfl⟩|⟨bk,off,cap,cs,e,part,rfl,hb,hg,aB,aZ,YM⟩
 ·cases h
 ·refine⟨.Cd ((b::l).map .str) (b::l).length 1 cl,?_,.inr (.inl ⟨cl,rfl⟩),fun c hc=>by cases hc⟩;have bW:CM (a::b::l).length (a::b::l).length none=some (l.length+2):=rfl;have dw:CM 0 (l.length+2) (some (.int .i64 ((1:Nat):Int)))=some 1:=BH (by omega);unfold W7;simp only[Nat.beq_refl,cond_true,aL,db,bW,dw,Qe];rw[Hu (by simp only[Qn,List.length_cons];omega)];simp only[Qe,List.map_cons];rw[show((AV.str a::AV.str b::l.map AV.str).drop (1*1))=AV.str b::l.map AV.str from rfl,List.take_of_length_le (by simp)];rfl
 ·have hlen:(a::b::l).length=l.length+2:=rfl;have htl:(cs.drop (off+1)).take (b::l).length=(b::l).map .str:=by
   have h2:(cs.drop off).take ((b::l).length+1)= .str a::(b::l).map .str:=aZ;have h3:=congrArg (List.drop 1) h2;rw[List.drop_take,List.drop_drop]at h3;simpa[Nat.add_comm]using h3
  refine⟨.slice bk (off+1*1) (b::l).length 1 (cap.map (· -1)),?_,.inr (.inr ⟨bk,off+1,cap.map (· -1),cs,e,part,rfl,hb,hg,by rw[hlen]at aB;show off+1+(l.length+1)≤_;omega,htl,?_⟩),fun c hc=>hc⟩
  ·unfold W7;have VX:VZ (s.heap.get bk)=some cs:=by rw[hg];rfl
   simp only[Nat.beq_refl,cond_true,VX,Qe,bn];have hm:(a::b::l).length≤ZF 1 off (a::b::l).length cap cs:=by
    cases cap with
    |some c=>exact YM c rfl
    |none=>
     rw[show ZF 1 off (a::b::l).length none cs=(W6 cs-off)/1 from rfl,D1,Nat.div_one];omega
   have bW:CM (a::b::l).length (ZF 1 off (a::b::l).length cap cs) none=some (l.length+2):=rfl;have dw:CM 0 (l.length+2) (some (.int .i64 ((1:Nat):Int)))=some 1:=BH (by omega);simp only[bW,dw,Qe];unfold sliceFrom;cases cap with
   |some c=>
    have hc:=YM c rfl;have:Nat.beq c 1=false:=by
     cases hb:Nat.beq c 1 with
     |false=>rfl
     |true=>have:=Qb hb;rw[hlen]at hc;omega
    simp only[this,cond_false];rfl
   |none=>
    have:Nat.blt 1 (ZF 1 off (a::b::l).length none cs)=true:=Qd (by rw[hlen]at hm⊢;omega);simp only[this,cond_true];rfl
  ·intro c hc;cases cap with
   |none=>cases hc
   |some d=>
    have:=YM d rfl;rw[hlen]at this;simp only[Option.map_some,Option.some.injEq]at hc;show l.length+1≤c;omega
def OK (sep:List UInt8):List (List UInt8)→List UInt8
 | []=>[]
 |a::l=>a++l.flatMap (sep++·)
theorem Ch.cut {E:Env} {fr:Fr} {l:Sl} {s:St} {Q:Ex→Fr→Sl→St→Prop} {a b:Code} (l2:Sl) (s2:St) (h1:Ch E a fr l s fun ex Xz l' s'=>ex= .normal∧Xz=fr∧s'=s2∧∀p∈l2,look p.1 l'=some p.2) (h2:Ch E b fr l2 s2 Q):Ch E (.seq a b) fr l s Q:=
 Aa (h1.mono fun ex Xz l' s' ⟨e1,e2,e3,e4⟩=>by
  subst e1 e2 e3;exact Ch.sub h2 e4)
def SubL:Sl→Sl→Prop
 | [],_=>True
 |p::r,l=>look p.1 l=some p.2∧SubL r l
theorem Ao {l:Sl}:∀ {l':Sl},SubL l' l→∀p∈l',look p.1 l=some p.2
 | [],_,_,h=>by cases h
 |q::r,h,p,hp=>by
  rcases Qk.1 hp with rfl|hp
  ·exact h.1
  ·exact Ao h.2 p hp
theorem Jy {E:Env} {l:Sl} {o:Oper} {t yt:TypeId} {x y:Operand} {a b:Nat} (ho:o.op= .binOp .mul t x y yt) (hu:C7 E t=some (.int .i64)) (hx:Ce x l=some (.int .i64 (a:Nat))) (hy:Ce y l=some (.int .i64 (b:Nat)))
 (h:a*b<9223372036854775808):Wj E o l (.int .i64 ((a*b:Nat):Int)):=by
 have:=Wj.mul (E:=E) (l:=l) ho hu hx hy (by rw[←Int.natCast_mul];omega);rwa[←Int.natCast_mul]at this
theorem Rv {E:Env} {l:Sl} {o:Oper} {t yt:TypeId} {x y:Operand} {a b:Nat} (ho:o.op= .binOp .quo t x y yt) (hu:C7 E t=some (.int .i64)) (hx:Ce x l=some (.int .i64 (a:Nat))) (hy:Ce y l=some (.int .i64 (b:Nat)))
 (h:0<b∧a<9223372036854775808):Wj E o l (.int .i64 ((a/b:Nat):Int)):=
 DY ho hu rfl hx hy (by
  show oR .i64 _ _=_;have hle:a/b≤a:=Nat.div_le_self a b;unfold oR;rw[if_neg (by omega),←Int.ofNat_tdiv];generalize a/b=q at hle⊢;rw[GL (by omega) (by omega)])
theorem Wj.remN {E:Env} {l:Sl} {o:Oper} {t yt:TypeId} {x y:Operand} {a b:Nat} (ho:o.op= .binOp .rem t x y yt) (hu:C7 E t=some (.int .i64)) (hx:Ce x l=some (.int .i64 (a:Nat))) (hy:Ce y l=some (.int .i64 (b:Nat)))
 (h:0<b):Wj E o l (.int .i64 ((a % b:Nat):Int)):=
 DY ho hu rfl hx hy (by
  show oS .i64 _ _=_;unfold oS;rw[if_neg (by omega),←Int.ofNat_tmod])
theorem OD {E:Env} {l:Sl} {o:Oper} {x y:Operand} {f:AV→AV→Option AV} {a b v:AV} (XX:Xg E o.type o.op=Am.XT E f x y) (hx:Ce x l=some a) (hy:Ce y l=some b) (hv:f a b=some v):Wj E o l v:=
 AJ (f:=fun T=>(Cc E x T).bind fun a=>(Cc E y T).bind fun b=>f a b) XX fun T hT=>by simp only[Al hT hx,Al hT hy,Qe,hv]
def Yd (c:UInt8):List UInt8→Option Nat
 | []=>none
 |b::l=>if b=c then some 0 else(Yd c l).map (· +1)
def bZ (c:UInt8) (w:List UInt8):Int:=match Yd c w with
 |some n=>(n:Int)
 |none=> -1
theorem sO (c:UInt8):∀w:List UInt8,jm c.toNat w=Yd c w
 | []=>rfl
 |b::w=>by
  show(bif Nat.beq b.toNat c.toNat then some 0 else(jm c.toNat w).bind fun n=>some (n+1))=if b=c then some 0 else(Yd c w).map (· +1);rw[sO c w];by_cases h:b=c
  ·rw[if_pos h,h,Nat.beq_refl];rfl
  ·rw[if_neg h];have:Nat.beq b.toNat c.toNat=false:=by
    cases hb:Nat.beq b.toNat c.toNat with
    |false=>rfl
    |true=>exact absurd (UInt8.toNat_inj.1 (Qb hb)) h
   rw[this];cases Yd c w<;>rfl
theorem M3 (c:UInt8) (w:List UInt8):ZI (.str w) (.int .u8 (c.toNat:Nat))=some (.int .i64 (bZ c w)):=by
 have hc:Nat.blt c.toNat 256=true:=Qd (by have:=c.toNat_lt;omega);show(bif Nat.blt c.toNat 256 then(match jm c.toNat w with
  |some n=>some (AV.int .i64 n)
  |none=>some (.int .i64 (-1)))else none)=_
 rw[hc,sO];unfold bZ;cases Yd c w<;>rfl
theorem H4 {c:UInt8}:∀ {w:List UInt8} {n:Nat},Yd c w=some n→n<w.length
 |b::w,n,h=>by
  unfold Yd at h;split at h
  ·cases h;simp
  ·obtain⟨m,hm,rfl⟩:=Option.map_eq_some_iff.1 h;have:=H4 hm;simp;omega
theorem U8 {c:UInt8}:∀ {w:List UInt8},Yd c w=none↔c∉w
 | []=>by simp[Yd]
 |b::w=>by
  unfold Yd;by_cases h:b=c
  ·subst h;simp
  ·rw[if_neg h,Option.map_eq_none_iff,U8,Qk];constructor
   ·rintro h1 (h2|h2)
    ·exact h h2.symm
    ·exact h1 h2
   ·exact fun h1 h2=>h1 (.inr h2)
def tw (p:Int→Bool) (w:List UInt8):Nat:=(w.takeWhile fun b=>p b.toNat).length
theorem yZ (p:Int→Bool) (w:List UInt8):tw p w≤w.length:=(List.takeWhile_sublist _).length_le
theorem OQ {p:Int→Bool}:∀ {w:List UInt8} {k:Nat},k≤tw p w→k<w.length→(p (w.getD k 0).toNat=true↔k<tw p w)
 |b::w,0,_,_=>by
  cases h:p b.toNat<;>simp[tw,List.takeWhile_cons,h]
 |b::w,k+1,hk,hw=>by
  cases h:p b.toNat with
  |false=>simp[tw,List.takeWhile_cons,h]at hk
  |true=>
   have e:tw p (b::w)=tw p w+1:=by simp[tw,List.takeWhile_cons,h]
   rw[e]at hk⊢;have:=OQ (p:=p) (w:=w) (k:=k) (by omega) (by simpa using hw);rw[List.getD_cons_succ,this];omega
structure Fresh (e:TypeId) (st jY:St) (cells:List AV):Prop where
 next:jY.next=st.next+1
 bound:jY.bound=st.bound
 log:jY.log=st.log
 low:∀c,c<st.next→jY.heap.get c=st.heap.get c
 cell:jY.heap.get st.next=some (.cells cells e false)
theorem Gy {s:St} {c:Nat} {o:Option CB} (h:s.bound=0):(s.put c o).log=s.log:=by
 show(bif Nat.blt c s.bound then _ else s.log)=_;rw[h];rfl
theorem Nw {E:Env} {s:St} {l:Sl} {a t k b:Nat} {rs:List ResultVar} {vs cs:List AV} {e:TypeId} {part:Bool} (hp:look a l=some (.ptr b 0)) (h1:isAgg E t=some true) (h2:sizeOf E t=some k) (hg:s.heap.get b=some (.cells cs e part)) (hk:k≤cs.length)
 (h:CT E s l rs=some vs):CT E s l (.cell a t::rs)=some (.agg (cs.take k)::vs):=by
 have hv:Wu E t s (.ptr b 0)=some (.agg ((cs.drop 0).take k)):=Eh h1 h2 hg (by omega);unfold CT;rw[hp];simp only[Qe,hv,h];rfl
theorem Lu {E:Env} {s:St} {l:Sl} {a t k b:Nat} {rs:List ResultVar} {vs cs:List AV} {v:AV} {e:TypeId} {part:Bool} (hp:look a l=some (.ptr b 0)) (h1:isAgg E t=some false) (h2:sizeOf E t=some k) (hg:s.heap.get b=some (.cells cs e part)) (hk:cs[0]?=some v)
 (h:CT E s l rs=some vs):CT E s l (.cell a t::rs)=some (v::vs):=by
 have hv:Wu E t s (.ptr b 0)=some v:=Aj h1 h2 hg hk;unfold CT;rw[hp];simp only[Qe,hv,h]
inductive Data (P:Program):TypeId→List AV→Prop
 |bool {t:TypeId} (h:P.underlying t=some .bool) (b:Bool):Data P t [.bool b]
 |int {t:TypeId} {k:IntKind} {n:Int} (h:P.underlying t=some (.int k)) (hw:(Lit.int k n).wf=true):Data P t [.int k n]
 |str {t:TypeId} (h:P.underlying t=some .string) {w:List UInt8} (hw:w.length≤maxLen):Data P t [.str w]
 |sl {t e:TypeId} (h:P.underlying t=some (.slice e)) {ls:List (List AV)} (hn:ls.length≤maxLen) (hl:∀l∈ls,l.length=P.cellsOf e) (hd:∀l∈ls,Data P e l):Data P t [.Cd ls.flatten ls.length (P.cellsOf e) true]
 |st {t:TypeId} {fs:Array Field} (h:P.underlying t=some (.struct fs)) {ls:List (List AV)} (hl:ls.length=fs.toList.length) (hd:∀(i:Nat) f l,fs.toList[i]?=some f→ls[i]?=some l→Data P f.type l):Data P t ls.flatten
def iT (P:Program):Nat→List Field→Option Nat
 |off,[]=>some off
 |off,f::fs=>bif Nat.beq f.offset off then iT P (off+P.cellsOf f.type) fs else none
def sP (P:Program) (ts:List TypeId) (t:TypeId):Bool:=
 match P.underlying t with
 |some .bool|some (.int _)|some .string=>true
 |some (.slice e)=>ts.contains e
 |some (.struct fs)=>(fs.toList.all fun f=>ts.contains f.type)&&(match iT P 0 fs.toList with|some n=>Nat.beq n (P.cellsOf t)|none=>false)
 |_=>false
def sQ (P:Program) (ts:List TypeId):Bool:=ts.all (sP P ts)
theorem QI {α β γ:Type} {f:α→Option β} {Q:α→γ→Prop}:∀ {l:List α} {r:List β},l.mapM f=some r→(∀x y,x∈l→f x=some y→∃z,Q x z)→∃zs:List γ,zs.length=l.length∧∀(i:Nat) x z,l[i]?=some x→zs[i]?=some z→Q x z
 | [],_,_,_=>⟨[],rfl,fun i x z h=>by simp at h⟩
 |a::l,r,h,hq=>by
  simp only[List.mapM_cons]at h;obtain⟨y,hy,h⟩:=Qa.1 h;obtain⟨ys,mg,h⟩:=Qa.1 h;obtain⟨z,hz⟩:=hq a y (Qh ..) hy;obtain⟨zs,hl,wa⟩:=QI mg fun x y hx=>hq x y (Qg _ hx);refine⟨z::zs,by simp[hl],fun i x z' h1 h2=>?_⟩;cases i with
  |zero=>simp at h1 h2;subst h1 h2;exact hz
  |succ i=>exact wa i x z' (by simpa using h1) (by simpa using h2)
theorem KC {α γ:Type} {Q:α→γ→Prop}:∀ {l:List α},(∀x∈l,∃z,Q x z)→∃zs:List γ,zs.length=l.length∧∀(i:Nat) x z,l[i]?=some x→zs[i]?=some z→Q x z
 | [],_=>⟨[],rfl,fun i x z h=>by simp at h⟩
 |a::l,hq=>by
  obtain⟨z,hz⟩:=hq a (Qh ..);obtain⟨zs,hl,wa⟩:=KC fun x hx=>hq x (Qg _ hx);refine⟨z::zs,by simp[hl],fun i x z' h1 h2=>?_⟩;cases i with
  |zero=>simp at h1 h2;subst h1 h2;exact hz
  |succ i=>exact wa i x z' (by simpa using h1) (by simpa using h2)
theorem sR {α:Type} {ms a b:List α} {off:Nat} (h1:Yf ms off a) (h2:Yf ms (off+a.length) b):Yf ms off (a++b):=by
 obtain⟨p,q,e,hp⟩:=h1;obtain⟨p2,q2,e2,pd⟩:=h2;refine⟨p,q2,?_,hp⟩;have:p2=p++a:=by
  have h3:p2.length=(p++a).length:=by rw[Qm];omega
  have h4:p2++(b++q2)=(p++a)++q:=by rw[←List.append_assoc,←e2,e]
  exact(List.append_inj h4 h3).1
 rw[e2,this];simp[List.append_assoc]
theorem sS {α:Type} {ms:List α} {off:Nat} (h:off≤ms.length):Yf ms off ([]:List α):=⟨ms.take off,ms.drop off,by simp,by simp[h]⟩
section
variable {H : Type} {enc : TypeId × Value → H} {P : Program} {W : World}
theorem MQ {a:Addr} {k:Nat} {cs:List Value} (h:W.cells? 0 a k=some cs) (hk:0<k):∃ms,(Cx.memory W).M a.block=some ms∧a.spot=none∧Yf ms a.off cs∧cs.length=k:=by
 unfold World.cells? at h;rw[if_pos (Qo _)]at h;have Ym:∀(l:List Nat) (r:List Value),l.mapM (fun i=>W.cell? (a.add i))=some r→r.length=l.length∧∀(i x:Nat),l[i]?=some x→W.cell? (a.add x)=r[i]?:=by
  intro l;induction l with
  |nil=>intro r h;simp at h;subst h;exact⟨rfl,fun i x h=>by simp at h⟩
  |cons b l ih=>
   intro r h;simp only[List.mapM_cons]at h;obtain⟨y,hy,h⟩:=Qa.1 h;obtain⟨ys,mg,h⟩:=Qa.1 h;cases h;obtain⟨i1,i2⟩:=ih ys mg;refine⟨by simp[i1],fun i x hx=>?_⟩;cases i with
   |zero=>simp at hx;subst hx;simpa using hy
   |succ i=>simpa using i2 i x (by simpa using hx)
 obtain⟨hl,hc⟩:=Ym _ _ h;rw[List.length_range]at hl;have za:∀i,i<k→W.cell? (a.add i)=cs[i]?:=fun i hi=>hc i i (by simp[hi]);have h0:=za 0 hk;rw[Qi (by omega)]at h0;unfold World.cell? at h0;cases hb:W.heap[(a.add 0).block]? with
 |none=>rw[hb]at h0;cases h0
 |some o=>
  rw[hb]at h0;cases o with
  |cells c e fr=>
   simp only at h0;have hsp:a.spot=none:=by
    cases hs:a.spot with
    |none=>rfl
    |some s=>
     rw[show(a.add 0).spot=a.spot from rfl,hs]at h0;simp at h0
   obtain⟨Cn,off,sp⟩:=a;obtain rfl:sp=none:=hsp;have YN:W.heap[Cn]?=some (.cells c e fr):=hb;refine⟨c.toList,by simp only[Cx.memory];rw[YN],rfl,?_,hl⟩;have zb:∀i,i<k→c.toList[off+i]?=cs[i]?:=fun i hi=>by
    rw[←za i hi,B7];unfold World.cell?;rw[YN];simp
   have hlen:off+k≤c.toList.length:=by
    have h1:=zb (k-1) (by omega);rw[Qi (l:=cs) (by omega)]at h1;have:=(List.getElem?_eq_some_iff.1 h1).1;omega
   refine⟨c.toList.take off,c.toList.drop (off+k),?_,by show _=off;rw[List.length_take];omega⟩;have:cs=(c.toList.drop off).take k:=by
    apply List.ext_getElem?;intro i;rcases Nat.lt_or_ge i k with hi|hi
    ·rw[←zb i hi,List.getElem?_take,if_pos hi,List.getElem?_drop]
    ·rw[List.getElem?_eq_none (by omega),List.getElem?_eq_none (by rw[List.length_take];omega)]
   rw[this,List.append_assoc,←List.drop_drop,List.take_append_drop,List.take_append_drop]
  |_=>simp at h0
theorem IZ {ms:List Value} {k:Nat}:∀(css:List (List Value)) (off:Nat),(∀l∈css,l.length=k)→(∀(i:Nat) l,css[i]?=some l→Yf ms (off+i*k) l)→off≤ms.length→Yf ms off css.flatten
 | [],off,_,_,h=>sS h
 |l::css,off,hl,h,ho=>by
  have h0:=h 0 l rfl;rw[Nat.zero_mul,Nat.add_zero]at h0;have gU:=hl l (Qh ..);rw[List.flatten_cons];refine sR h0 (IZ css _ (fun x hx=>hl x (Qg _ hx)) (fun i x hx=>?_) ?_)
  ·have:=h (i+1) x (by simpa using hx);rwa[gU,show off+k+i*k=off+(i+1)*k by rw[Nat.succ_mul];omega]
  ·obtain⟨p,q,e,hp⟩:=h0;rw[e,Qm,Qm];omega
theorem VS.flatten {C:Cx}:∀ {as:List (List AV)} {xs:List (List Value)},as.length=xs.length→(∀(i:Nat) a x,as[i]?=some a→xs[i]?=some x→VS C a x)→VS C as.flatten xs.flatten
 | [],[],_,_=> .nil
 |a::as,x::xs,hl,h=>by
  rw[List.flatten_cons,List.flatten_cons];exact(h 0 a x U U).append (VS.flatten (by simpa using hl) fun i b y h1 h2=>h (i+1) b y (by simpa using h1) (by simpa using h2))
theorem Iw {as:List (List AV)} (h:∀a∈as,Cells a):Cells as.flatten:=fun v hv=>by
 obtain⟨a,ha,qN⟩:=List.mem_flatten.1 hv;exact h a ha v qN
theorem NQ {cs:List Value}:∀ {fs:List Field} {off n:Nat},iT P off fs=some n→n=cs.length→off≤cs.length→(fs.map fun f=>(cs.drop f.offset).take (P.cellsOf f.type)).flatten=cs.drop off
 | [],off,n,h,hn,_=>by
  cases h;rw[List.map_nil,List.flatten_nil,hn,List.drop_length]
 |f::fs,off,n,h,hn,ho=>by
  unfold iT at h;cases hb:Nat.beq f.offset off with
  |false=>rw[hb]at h;cases h
  |true=>
   rw[hb,cond_true]at h;have he:f.offset=off:=Qb hb;have hle:∀(fs:List Field) (o n:Nat),iT P o fs=some n→o≤n:=by
    intro fs;induction fs with
    |nil=>intro o n h;cases h;exact Qj _
    |cons g fs ih=>
     intro o n h;unfold iT at h;cases hb:Nat.beq g.offset o with
     |false=>rw[hb]at h;cases h
     |true=>rw[hb,cond_true]at h;have:=ih _ _ h;omega
   have:=hle _ _ _ h;rw[List.map_cons,List.flatten_cons,NQ h hn (by omega),he,←List.drop_drop,List.take_append_drop]
variable {sp : Nat → Bool} {held : Bool} {ts : List TypeId}
theorem PJ (jt:sQ P ts=true):∀(n:Nat) (t:TypeId) (cs:List Value) (x:DataW H×List MemPlace),t∈ts→DataW.trod enc P W 0 sp held n t cs=some x→
 ∃sU,VS (Cx.memory W).bare sU cs∧Cells sU∧Data P t sU
 |0,_,_,_,_,h=>by cases h
 |n+1,t,cs,x,ht,h=>by
  have hd:sP P ts t=true:=List.all_eq_true.1 jt t ht;unfold sP at hd;split at hd
  ·next hu=>
   obtain⟨b,rfl,-⟩:=DataW.trod_bool hu h;exact⟨[.bool b],.cons (.bool _) .nil,by intro v hv;simp at hv;subst hv;rfl,.bool hu b⟩
  ·next k hu=>
   obtain⟨z,rfl,-,hw⟩:=DataW.trod_int hu h;exact⟨[.int k z],.cons (.int _ _) .nil,by intro v hv;simp at hv;subst hv;rfl,.int hu hw⟩
  ·next hu=>
   obtain⟨s,rfl,-,hs⟩:=DataW.trod_string hu h;exact⟨[.str s.data.toList],.cons (.str U) .nil,by intro v hv;simp at hv;subst hv;rfl,.str hu (by simpa using hs)⟩
  ·next e hu=>
   have he:e∈ts:=by simpa using hd
   rw[DataW.trod_step]at h;unfold DataW.trodStep at h;rw[hu]at h;split at h<;>first|(cases h;done)|(next heq=>cases heq;done)|(next heq _=>cases heq;done)|skip
   ·exact⟨[.Cd [] 0 (P.cellsOf e) true],.cons (.VT none (Nat.zero_mul _) (Qo _)) .nil,by intro v hv;simp at hv;subst hv;rfl,Data.sl (ls:=[]) hu (Qo _) (by intro l hl;cases hl) (by intro l hl;cases hl)⟩
   ·next e' a len cap heq=>
    cases heq;simp only at h;split at h
    ·next hg=>
     obtain⟨elems,hel,-⟩:=Qa.1 h;obtain⟨zs,pQ,hz⟩:=QI (γ:=List Value×List AV) (Q:=fun i z=>W.cells? 0 (a.add (i*P.cellsOf e)) (P.cellsOf e)=some z.1∧VS (Cx.memory W).bare z.2 z.1∧Cells z.2∧Data P e z.2) hel fun i y _ hy=>by
      obtain⟨c0,zS,hr⟩:=Qa.1 hy;obtain⟨sU,h1,h2,h3⟩:=PJ jt n e c0 y he hr;exact⟨(c0,sU),zS,h1,h2,h3⟩
     rw[List.length_range]at pQ;have zc:∀(i:Nat) z,zs[i]?=some z→i<len∧W.cells? 0 (a.add (i*P.cellsOf e)) (P.cellsOf e)=some z.1∧VS (Cx.memory W).bare z.2 z.1∧Cells z.2∧Data P e z.2:=fun i z hi=>by
      have C6:=(List.getElem?_eq_some_iff.1 hi).1;exact⟨by omega,hz i i z (by rw[List.getElem?_range (by omega)]) hi⟩
     have XK:∀(i:Nat) z,zs[i]?=some z→z.1.length=P.cellsOf e:=fun i z hi=>by
      have hc:=(zc i z hi).2.1;by_cases hk:0<P.cellsOf e
      ·exact(MQ hc hk).choose_spec.2.2.2
      ·have h0:P.cellsOf e=0:=by omega
       rw[h0]at hc⊢;unfold World.cells? at hc;rw[if_pos (Qo _)]at hc;simp at hc;rw[hc];rfl
     have vk:∀(i:Nat) z,zs[i]?=some z→z.2.length=P.cellsOf e:=fun i z hi=>by rw[←XK i z hi,(zc i z hi).2.2.1.length]
     have jq:Data P t [.Cd (zs.map (·.2)).flatten (zs.map (·.2)).length (P.cellsOf e) true]:= .sl hu (by rw[Qn];omega) (fun l hl=>by
      obtain⟨z,ll,rfl⟩:=List.mem_map.1 hl;obtain⟨i,hi⟩:=List.mem_iff_getElem?.1 ll;exact vk i z hi) (fun l hl=>by
      obtain⟨z,ll,rfl⟩:=List.mem_map.1 hl;obtain⟨i,hi⟩:=List.mem_iff_getElem?.1 ll;exact(zc i z hi).2.2.2.2)
     have ia:Cells (zs.map (·.2)).flatten:=Iw fun l hl=>by
      obtain⟨z,ll,rfl⟩:=List.mem_map.1 hl;obtain⟨i,hi⟩:=List.mem_iff_getElem?.1 ll;exact(zc i z hi).2.2.2.1
     refine⟨_,.cons ?_ .nil,by intro v hv;simp at hv;subst hv;rfl,jq⟩;rw[Qn,pQ];have hlen:(zs.map (·.2)).flatten.length=len*P.cellsOf e:=by
      have:∀(l:List (List Value×List AV)),(∀z∈l,z.2.length=P.cellsOf e)→(l.map (·.2)).flatten.length=l.length*P.cellsOf e:=by
       intro l;induction l with
       |nil=>intro _;simp
       |cons b l ih=>
        intro hb;rw[List.map_cons,List.flatten_cons,Qm,ih fun z hz=>hb z (Qg _ hz),hb b (Qh ..),List.length_cons,Nat.succ_mul,Nat.add_comm]
      rw[this zs fun z ll=>by
       obtain⟨i,hi⟩:=List.mem_iff_getElem?.1 ll;exact vk i z hi,pQ]
     by_cases h0:len*P.cellsOf e=0
     ·rw[List.eq_nil_of_length_eq_zero (hlen.trans h0)];exact .VT _ h0 hg.2.1
     ·have hk:0<P.cellsOf e:=Nat.pos_of_ne_zero fun h=>h0 (by rw[h,Nat.mul_zero]);have X9:0<len:=Nat.pos_of_ne_zero fun h=>h0 (by rw[h,Nat.zero_mul]);obtain⟨z0,hz0⟩:∃z,zs[0]?=some z:=⟨_,Qi (by omega)⟩
      have zS:=(zc 0 z0 hz0).2.1;rw[Nat.zero_mul,show a.add 0=a from rfl]at zS;obtain⟨ms,hM,hsp,hat0,_⟩:=MQ zS hk;obtain⟨Cn,off,spot⟩:=a;obtain rfl:spot=none:=hsp;have hats:∀(i:Nat) l,(zs.map (·.1))[i]?=some l→Yf ms (off+i*P.cellsOf e) l:=fun i l hi=>by
       rw[List.getElem?_map]at hi;obtain⟨z,ll,rfl⟩:=Option.map_eq_some_iff.1 hi;have hc:=(zc i z ll).2.1;rw[B7]at hc;obtain⟨ms',hM',_,ZZ,_⟩:=MQ hc hk;rw[show(⟨Cn,off+i*P.cellsOf e,none⟩:Addr).block=Cn from rfl,hM]at hM';cases hM';exact ZZ
      refine .Cd (vs:=(zs.map (·.1)).flatten) (ms:=ms) hlen hM ?_ ?_ ?_ ia hg.2.1
      ·refine IZ _ _ (fun l hl=>?_) hats ?_
       ·obtain⟨z,ll,rfl⟩:=List.mem_map.1 hl;obtain⟨i,hi⟩:=List.mem_iff_getElem?.1 ll;exact XK i z hi
       ·obtain⟨p,q,e1,hp⟩:=hat0;rw[e1,Qm,Qm];have:p.length=off:=hp;omega
      ·refine VS.flatten (by simp) fun i b y h1 h2=>?_;rw[List.getElem?_map]at h1 h2;obtain⟨z,ll,rfl⟩:=Option.map_eq_some_iff.1 h1;rw[ll]at h2;cases h2;exact(zc i z ll).2.2.1
      ·intro _;refine VS.flatten (by simp) fun i b y h1 h2=>?_;rw[List.getElem?_map]at h1 h2;obtain⟨z,ll,rfl⟩:=Option.map_eq_some_iff.1 h1;rw[ll]at h2;cases h2;exact(zc i z ll).2.2.1
    ·cases h
  ·next fs hu=>
   obtain⟨xs,m,hm,-,hlen,pS,hx⟩:=DataW.trod_struct hu h;obtain rfl:n=m:=by omega
   rw[Qf]at hd;obtain⟨zs,pQ,hz⟩:=KC (γ:=List AV) (Q:=fun(f:Field) z=>VS (Cx.memory W).bare z ((cs.drop f.offset).take (P.cellsOf f.type))∧Cells z∧Data P f.type z) (l:=fs.toList) fun f hf=>by
    have hft:f.type∈ts:=by simpa using List.all_eq_true.1 hd.1 f hf
    obtain⟨i,hi⟩:=List.mem_iff_getElem?.1 hf;have yG:fs[i]?=some f:=by simpa using hi
    have C6:i<xs.length:=by
     have:=(Array.getElem?_eq_some_iff.1 yG).1;omega
    have:=hx i f yG;rw[Qi C6]at this;exact PJ jt n f.type _ _ hft this
   cases hl:iT P 0 fs.toList with
   |none=>rw[hl]at hd;cases hd.2
   |some m=>
    rw[hl]at hd;have hm:m=P.cellsOf t:=Qb hd.2;have hp:=NQ (cs:=cs) hl (by omega) (Qo _);rw[List.drop_zero]at hp;refine⟨zs.flatten,?_,Iw fun z ll=>?_,.st hu pQ fun i f l hf aZ=>(hz i f l hf aZ).2.2⟩
    ·rw[←hp];refine VS.flatten (by simpa using pQ) fun i b y h1 h2=>?_;rw[List.getElem?_map]at h2;obtain⟨f,hf,rfl⟩:=Option.map_eq_some_iff.1 h2;exact(hz i f b hf h1).1
    ·obtain⟨i,hi⟩:=List.mem_iff_getElem?.1 ll;have C6:=(List.getElem?_eq_some_iff.1 hi).1;exact(hz i _ z (Qi (by omega)) hi).2.1
  ·cases hd
theorem SB (jt:sQ P ts=true) {t:TypeId} {fs:Array Field} {v:Value} {d:DataW H} {ps:List MemPlace} {r:Reach} {b0:Nat} (ht:ts.contains t=true) (hu:P.underlying t=some (.struct fs)) (hv:Value.okWide P W r b0 t v) (h:DataW.Trod enc P W 0 sp held t v d ps):
 ∃sU,VR (Cx.memory W) (.agg sU) v∧Data P t sU:=by
 unfold Value.okWide at hv;rw[hu]at hv;obtain⟨cs,rfl,-,-⟩:=hv;obtain⟨n,hn⟩:=h;obtain⟨sU,h1,h2,h3⟩:=PJ jt n t _ _ (by simpa using ht) hn;exact⟨sU,.agg (h1.mono (Ext.ov _)) h2,h3⟩
end
section
variable {E : Env} {fr : Fr} {l : Sl} {s : St} {o : Oper}
theorem OH {t:TypeId} {x:Operand} {w:List UInt8} (ho:o.op= .range t x) (hu:C7 E t=some .string) (hx:Ce x l=some (.str w)):Ws E o fr l s (.ptr s.next 0) (s.alloc (.X5 w 0)):=fun T hT=>
 FQ (f:=fun T=>(Cc E x T).bind Am.lY) (by
  rw[ho];show iy E t x=_;unfold iy;rw[hu]) (by rw[Al hT hx];rfl)
theorem I6 {b pos:Nat} {w:List UInt8} (hg:s.heap.get b=some (.X5 w pos)):bq s (.ptr b 0)=aO s b (some (.X5 w pos)):=by
 show aO s b (s.heap.get b)=_;rw[hg]
theorem Ws.next {it:Operand} {v:AV} {p:AV×St} (ho:o.op= .next it true) (hx:Ce it l=some v) (h:bq s v=some p):Ws E o fr l s p.1 p.2:=fun T hT=>
 Hj (b:=true) (x:=Cc E it) (f:=fun T s=>(Cc E it T).bind (bq s)) (by rw[ho];rfl) (by rw[Al hT hx,Qe,h])
theorem PW {it:Operand} {b pos:Nat} {w:List UInt8} (ho:o.op= .next it true) (hx:Ce it l=some (.ptr b 0)) (hg:s.heap.get b=some (.X5 w pos)) (hp:pos=w.length):Ws E o fr l s (.tuple [.bool false]) s:=by
 subst hp;refine Ws.next (p:=(.tuple [.bool false],s)) ho hx ?_;rw[I6 hg];show(WM w.length w).bind _=_;rw[show WM w.length w=some [] by
  have:=Fy w ([]:List UInt8);rwa[List.append_nil]at this];rfl
theorem ML {α:Type} {l:List α} {k:Nat} {d:α} (h:k<l.length):WM k l=some (l.getD k d::l.drop (k+1)):=by
 have h1:l=l.take k++(l.getD k d::l.drop (k+1)):=by
  rw[List.getD,Qi h,Option.getD_some,←List.drop_eq_getElem_cons h,List.take_append_drop]
 have h2:(l.take k).length=k:=by rw[List.length_take];omega
 have:=Fy (l.take k) (l.getD k d::l.drop (k+1));rwa[h2,←h1]at this
theorem PV {it:Operand} {b pos:Nat} {w:List UInt8} (ho:o.op= .next it true) (hx:Ce it l=some (.ptr b 0)) (hg:s.heap.get b=some (.X5 w pos)) (hp:pos<w.length) (hc:(w.getD pos 0).toNat<128):
 Ws E o fr l s (.tuple [.bool true,.int .i64 (pos:Nat),.int .i32 ((w.getD pos 0).toNat:Nat)]) (s.put b (some (.X5 w (pos+1)))):=by
 refine Ws.next (p:=(.tuple [.bool true,.int .i64 (pos:Nat),.int .i32 ((w.getD pos 0).toNat:Nat)],s.put b (some (.X5 w (pos+1))))) ho hx ?_;rw[I6 hg];show(WM pos w).bind _=_;rw[ML (d:=0) hp];show(bif Nat.blt (w.getD pos 0).toNat 128 then _ else _)=_;rw[show Nat.blt (w.getD pos 0).toNat 128=true from Qd hc];rfl
theorem PI {s:ByteArray} {i:Nat} (h:128≤(s.get! (i+0)).toNat):128≤(Utf8.decode s i).1:=by
 unfold Utf8.decode;simp only;rw[if_neg (by omega)];have hr:128≤Utf8.runeError:=by decide
 split
 ·split
  ·next h=>exact h
  ·exact hr
 ·split
  ·split
   ·next h=>rw[Qf,decide_eq_true_eq]at h;have:=h.1;show 128≤_;omega
   ·exact hr
  ·split
   ·split
    ·next h=>rw[Qf,decide_eq_true_eq]at h;have:=h.1;show 128≤_;omega
    ·exact hr
   ·exact hr
theorem OI {b pos:Nat} {w:List UInt8} (hg:s.heap.get b=some (.X5 w pos)) (hp:pos<w.length) (hc:¬(w.getD pos 0).toNat<128):
 ∃r d:Nat,128≤r∧∀ {E:Env} {fr:Fr} {l:Sl} {o:Oper} {it:Operand},o.op= .next it true→Ce it l=some (.ptr b 0)→Ws E o fr l s (.tuple [.bool true,.int .i64 (pos:Nat),.int .i32 (r:Nat)]) (s.put b (some (.X5 w (pos+d)))):=by
 refine⟨(Utf8.decode ⟨w.toArray⟩ pos).1,(Utf8.decode ⟨w.toArray⟩ pos).2,PI ?_,fun ho hx=>?_⟩
 ·have:(ByteArray.mk w.toArray).get! (pos+0)=w.getD pos 0:=by
   show(w.toArray)[pos+0]! =_;simp[List.getD,hp]
  rw[this];omega
 refine Ws.next (p:=(.tuple [.bool true,.int .i64 (pos:Nat),.int .i32 ((Utf8.decode ⟨w.toArray⟩ pos).1:Nat)],s.put b (some (.X5 w (pos+(Utf8.decode ⟨w.toArray⟩ pos).2))))) ho hx ?_;rw[I6 hg];show(WM pos w).bind _=_;rw[ML (d:=0) hp];show(bif Nat.blt (w.getD pos 0).toNat 128 then _ else _)=_;rw[show Nat.blt (w.getD pos 0).toNat 128=false by
  cases hb:Nat.blt (w.getD pos 0).toNat 128 with
  |false=>rfl
  |true=>exact absurd (Qc hb) (by omega)];rfl
theorem MX {n bd:Nat} {lg:List Nat} {hl:Hl} {t:TypeId} {x:Operand} {w:List UInt8} (m:Nat) (ho:o.op= .range t x) (hu:C7 E t=some .string) (hx:Ce x l=some (.str w)) (hm:n+1=m):Ws E o fr l (WZ n bd lg hl) (.ptr n 0) (WZ m bd lg ((n,some (.X5 w 0))::hl)):=by
 subst hm;exact OH ho hu hx
end
def Cq {α:Type} (enc:α→List AV) (k:Nat) (l:List α):AV:= .Cd (l.flatMap enc) l.length k true
theorem Fv {α:Type} {enc:α→List AV} {k:Nat} (h:∀a,(enc a).length=k):∀l:List α,(l.flatMap enc).length=l.length*k
 | []=>(Nat.zero_mul k).symm
 |a::l=>by rw[List.flatMap_cons,Qm,Fv h l,h a,List.length_cons,Nat.succ_mul,Nat.add_comm]
theorem Oh {α:Type} {enc:α→List AV} {k:Nat} (h:∀a,(enc a).length=k):∀ {l:List α} {i:Nat} (hi:i<l.length),(l.flatMap enc).drop (i*k)=enc l[i]++(l.drop (i+1)).flatMap enc
 |a::l,0,_=>by rw[Nat.zero_mul,List.drop_zero];rfl
 |a::l,i+1,hi=>by
  have ih:=Oh h (l:=l) (i:=i) (by simpa using hi);rw[List.flatMap_cons,show(i+1)*k=(enc a).length+i*k by rw[h a,Nat.succ_mul,Nat.add_comm],List.drop_length_add_append,ih];rfl
theorem A7 {α:Type} {enc:α→List AV} {k:Nat} (h:∀a,(enc a).length=k+1) {l:List α} {i:Nat} (hi:i<l.length):CQ (k+1) i (Cq enc (k+1) l)=some (.WO (enc l[i]++(l.drop (i+1)).flatMap enc)):=by
 unfold Cq CQ;simp only[show Nat.blt i l.length=true from Qd hi,cond_true];have C6:i*(k+1)<(l.flatMap enc).length:=by rw[Fv h];exact Nat.mul_lt_mul_of_pos_right hi (Nat.succ_pos k)
 have hd:=Oh h hi;have h1:WM (i*(k+1)) (l.flatMap enc)=some ((l.flatMap enc).drop (i*(k+1))):=by
  have:=Fy ((l.flatMap enc).take (i*(k+1))) ((l.flatMap enc).drop (i*(k+1)));rwa[List.take_append_drop,List.length_take,Nat.min_eq_left (by omega)]at this
 rw[h1,hd,Qe];cases he:enc l[i]with
 |nil=>have:=h l[i];rw[he]at this;cases this
 |cons c cs=>rfl
theorem Xr.at2 {E:Env} {s:St} {v:AV} {l:List (List UInt8)} (h:Xr s v l) {i:Nat} (hi:i<l.length) {t:TypeId} (h1:isAgg E t=some false) (h2:sizeOf E t=some 1):
 (∃rest,CQ (0+1) i v=some (.WO (.str l[i]::rest)))∨∃b off,CQ (0+1) i v=some (.ptr b off)∧Wu E t s (.ptr b off)=some (.str l[i]):=by
 obtain⟨p,hp,hl⟩:=h.at hi h1 h2;rcases h with⟨rfl,rfl⟩|⟨cl,rfl⟩|⟨b,off,cap,cs,e,part,rfl,hb,hg,hc⟩
 ·simp at hi
 ·refine .inl ⟨(l.map AV.str).drop (i+1),?_⟩;unfold CQ;simp only[show Nat.blt i l.length=true from Qd hi,cond_true];rw[show i*(0+1)=i by omega];have h':i<(l.map AV.str).length:=by rw[Qn];exact hi
  have h1:=ML (d:=AV.ab) h';rw[h1,List.getD,Qi h',Option.getD_some,List.getElem_map];rfl
 ·unfold CQ at hp;simp only[show Nat.blt i l.length=true from Qd hi,cond_true]at hp;cases hp;refine .inr ⟨b,off+i*(0+1),?_,hl⟩;unfold CQ;simp only[show Nat.blt i l.length=true from Qd hi,cond_true]
section
variable {E : Env} {fr : Fr} {l : Sl} {o : Oper} {all rest : List Oper} {i : Nat} {js : List Nat} {nl : W8} {K : Sl → St → Prop} {st : St} {od : Option Nat}
theorem VH.append {KN:PN} {c:Call} {t e:TypeId} {ts:List TypeId} {x y:Operand} {sz WJ n:Nat} {z a b v:AV} {new:List AV} {s2:St} (ho:o.op= .call c) (hc:c.callee= .builtin .append) (ht:c.argTypes.toList=t::ts) (ha:c.args.toList=[x,y])
 (hu:C7 E t=some (.slice e)) (XA:sizeOf E e=some sz) (aW:bytesOf E e=some WJ) (hz:zeroOf E e=some z) (hk:(!(Nat.beq (W6 z.cells) sz)||Nat.beq sz 0|| !(ec E ts.head?))=false) (h0:XU E ts.head?=false)
 (hx:Ce x (VM (tmpsOf o.op.operands.toList) l)=some a) (hy:Ce y (VM (tmpsOf o.op.operands.toList) l)=some b) (hn:WG (st.sub st.heap) sz b=some (new,n)) (hr:CA (st.sub st.heap) e sz WJ new n a=some (v,s2))
 (az:st.next≤s2.next) (Wm:∀b∈s2.log,b<st.next∧Xk (Ok all i) b nl=true) (eu:cR (Ok all i) js=true) (aC:(nl.all fun p=>Nat.testBit (Ok all i) p.1)=true)
 (hg:Wc all l o) (hd:o.dst=od) (C6:WA fr.nt od=true)
 (h:VH E KN all rest (i+1) fr (Xe od v l) (st.merged s2) (i::js) (Xi i (Xi i nl (Yb st.next (s2.next-st.next))) s2.log) K):VH E KN all (o::rest) i fr l st js nl K:=
 Rr (x:=Cc E x) (f:=fun T s=>(Cc E x T).bind fun a=>(Cc E y T).bind fun b=>(WG s sz b).bind fun p=>CA s e sz WJ p.1 p.2 a) (by
  rw[ho];show VV E o.type c=_;unfold VV;rw[hc];simp only;rw[ht,ha];show bp E t ts.head? x y=_;unfold bp;rw[hu];simp only[XA,aW,hz,hk,h0,cond_false]) (Ws.append ho hc ht ha hu XA aW hz hk h0 hx hy hn hr) az Wm eu aC hg hd C6 h
end
theorem Of {st:St} {e:TypeId} {WJ:Nat} {new:List AV} (hs:small new.length WJ=true) (hb:st.bound=0):
 ∃v' s2,CA (st.sub st.heap) e 1 WJ new new.length .Ca=some (v',s2)∧st.next≤s2.next∧s2.next≤st.next+1∧s2.log=[]∧Grown (st.merged s2) e 1 v' new new.length∧(∀c,Ci c v'=true→c=st.next)∧
  (∀c,c<st.next→(st.merged s2).heap.get c=st.heap.get c)∧(st.merged s2).log=st.log∧(st.merged s2).bound=0:=by
 cases hn:new with
 |nil=>
  refine⟨.Ca,st.sub st.heap,rfl,Qj _,Nat.le_succ _,rfl,.inl ⟨rfl,rfl,rfl⟩,(fun c hc=>by cases hc),fun c hc=>?_,?_,hb⟩
  ·show(W5 _ (Yb st.next (st.next-st.next)) st.heap).get c=_;rw[Nat.sub_self];rfl
  ·show below st.bound [] st.log=_;rfl
 |cons a l=>
  rw[hn]at hs;have hm:((st.sub st.heap).alloc (.cells (a::l) e true)).next=st.next+1:=rfl;refine⟨.slice st.next 0 (a::l).length 1 none,(st.sub st.heap).alloc (.cells (a::l) e true),?_,Nat.le_succ _,Qj _,rfl,.inr ⟨st.next,rfl,Nat.lt_succ_self _,?_,by omega,by simp⟩,fun c hc=>(Qb hc).symm,fun c hc=>?_,rfl,hb⟩
  ·unfold CA;rw[hs];rfl
  ·rw[GT hm,if_pos (.inl rfl)];show(st.heap.set st.next _).get st.next=_;rw[AF,if_pos rfl]
  ·rw[GT hm,if_neg (by
    rintro(h|h)
    ·omega
    ·cases h)]
theorem Li {s:St} {v:AV} {l:List (List UInt8)} (h:Xr s v l):WG s 1 v=some (l.map .str,l.length):=by
 rcases h with⟨rfl,rfl⟩|⟨cl,rfl⟩|⟨b,off,cap,cs,e,part,rfl,hb,hg,aB,aZ,_⟩
 ·rfl
 ·show(takeN (l.length*1) (l.map AV.str)).bind _=_;have h1:=HF (l.map AV.str);rw[Qn]at h1;rw[Nat.mul_one,h1];rfl
 ·show(VZ (s.heap.get b)).bind _=_;rw[hg];show(WM off cs).bind _=_;rw[Hc (by omega),Qe];have h1:=Gv ((cs.drop off).take l.length) ((cs.drop off).drop l.length);rw[List.take_append_drop,aZ,Qn]at h1;rw[Nat.mul_one,h1];rfl
section
variable {E : Env} {fr : Fr} {l : Sl} {o : Oper} {all rest : List Oper} {i : Nat} {js : List Nat} {nl : W8} {K : Sl → St → Prop} {st : St} {od : Option Nat}
theorem AZ {KN:PN} {t e:TypeId} {len sz:Nat} {parts:Array (Nat×Operand)} {z:AV} {ps:List (Nat×AV)} {cs:List AV} (ho:o.op= .buildSlice t (len+1) parts) (hu:C7 E t=some (.slice e)) (hs:sizeOf E e=some sz) (hz:zeroOf E e=some z)
 (hk:(Nat.beq (W6 z.cells) sz&&Nat.ble ((len+1)*sz) 16777216&& !(Nat.beq sz 0))=true) (hq:gm parts.toList (VM (tmpsOf o.op.operands.toList) l)=some ps) (hf:ZC (fun i=>some (i*sz,sz)) ps (WQ z.cells (len+1))=some cs)
 (hg:Wc all l o) (hd:o.dst=od) (C6:WA fr.nt od=true)
 (h:VH E KN all rest (i+1) fr (Xe od (.slice st.next 0 (len+1) sz (some (len+1))) l) (st.alloc (.cells cs e false)) js ((i,st.next)::nl) K):VH E KN all (o::rest) i fr l st js nl K:=
 O8 (f:=fun T=>(ZD E parts.toList T).bind fun ps=>Zh e sz (len+1) (ZC (fun i=>some (i*sz,sz)) ps (WQ z.cells (len+1)))) (g:=fun b=> .slice b 0 (len+1) sz (some (len+1))) (by
  rw[ho];show XZ E t (len+1) parts.toList=_;unfold XZ;rw[hu];simp only[hs,hz,hk,cond_true]) (fun T hT=>by
  simp only[HR hT hq,Qe,hf];rfl) hg hd C6 h
end
theorem Dr {CS b:Nat}:∀ {nl:W8},(nl.all fun p=>Nat.testBit CS p.1)=true→Xk CS b nl=true
 | [],_=>rfl
 |(j,c)::nl,h=>by
  rw[List.all_cons,Qf]at h;exact Ox h.1 (Dr h.2)
theorem BW {n k:Nat} (h:n*(k+1)≤1099511627776) (hk:k+1≤1048576):small n (k+1)=true:=by
 have:n≤n*(k+1):=Nat.le_mul_of_pos_right _ (Nat.succ_pos k);unfold small;rw[Qd h,Qd (show n≤1099511627776 by omega),Qd hk];rfl
theorem Grown.strs {s:St} {e:TypeId} {v:AV} {l:List (List UInt8)} {n:Nat} (h:Grown s e 1 v (l.map .str) n) (hn:n=l.length):Xr s v l:=by
 subst hn;rcases h with⟨rfl,h0,hc⟩|⟨b,rfl,hb,hg,hl,h0⟩
 ·exact .inl ⟨rfl,by simpa using hc⟩
 ·exact .inr (.inr ⟨b,0,none,_,_,_,rfl,hb,hg,by rw[Qn];omega,by rw[List.drop_zero,List.take_of_length_le (by rw[Qn];exact Qj _)],fun c hc=>by cases hc⟩)
theorem J5 {CS i:Nat} {nl:W8} (hi:Nat.testBit CS i=true) (h:(nl.all fun p=>Nat.testBit CS p.1)=true):∀L:List Nat,((Xi i nl L).all fun p=>Nat.testBit CS p.1)=true
 | []=>h
 |b::L=>by
  show(Nat.testBit CS i&&_)=true;rw[hi,J5 hi h L];rfl
theorem Ri {CS i b:Nat} {nl:W8} (hi:Nat.testBit CS i=true) (h:(nl.all fun p=>Nat.testBit CS p.1)=true):(((i,b)::nl).all fun p=>Nat.testBit CS p.1)=true:=by
 rw[List.all_cons,h,hi];rfl
section
variable {E : Env} {fr : Fr} {l : Sl} {s : St} {all rest : List Oper} {o : Oper}
theorem H9 {KP:AV→Sl→St→Prop} {K:Sl→St→Prop} {j e:Nat} {w b:Bool} {oj:Oper} (hg:o.guard=some (j,w)) (hj:nth all j=some oj) (he:oj.dst=some e) (hl:look e l=some (.bool b)) (hb:b=w)
 (h:VE E KP all ({o with guard:=none}::rest) fr l s K):VE E KP all (o::rest) fr l s K:=by
 intro T hT;obtain⟨M,ex,l',T',s2,hk,YP,hr⟩:=h T hT;refine⟨M,ex,l',T',s2,hk,YP,fun n hn=>?_⟩;have hr:=hr n hn;have b9:(YL E all {o with guard:=none} (Y5 o.dst (Zo E all rest))).run (ev E n) fr T s=_:=hr;show(YL E all o (Y5 o.dst (Zo E all rest))).run (ev E n) fr T s=_;unfold YL guarded at b9⊢;rw[hg];simp only at b9⊢;rw[Gu (g:=(j,w)) hj he (hT e _ hl)];have:(bif w then b else !b)=true:=by rw[hb];cases w<;>rfl
 rw[this];simp only[aT,cond_true];exact b9
theorem LG {st:St} {ob:CB} {c:Nat}:(st.alloc ob).heap.get c=if c=st.next then some ob else st.heap.get c:=AF ..
theorem BZ {st:St} {ob:CB}:(st.alloc ob).heap.get st.next=some ob:=by rw[LG,if_pos rfl]
theorem AT {st:St} {ob:CB} {c:Nat} (h:c<st.next):(st.alloc ob).heap.get c=st.heap.get c:=by rw[LG,if_neg (Nat.ne_of_lt h)]
theorem CL.alloc {st:St} {ob:CB} {own:Nat→Prop}:CL st (st.alloc ob) own:=
 ⟨Nat.le_succ _,rfl,fun _ h=> .inl h,fun _ hc _=>AT hc⟩
def Zy:Nat→List (List UInt8)→List WV
 |_,[]=>[]
 |k,w::l=>(.str w,.bool true,k)::Zy (k+1) l
theorem Ou:∀(k:Nat) (l:List (List UInt8)) (w:List UInt8),Zy k (l++[w])=Zy k l++[(.str w,.bool true,k+l.length)]
 |_,[],_=>rfl
 |k,a::l,w=>by
  show(AV.str a,AV.bool true,k)::Zy (k+1) (l++[w])=_;rw[Ou (k+1) l w];show _=(AV.str a,AV.bool true,k)::(Zy (k+1) l++[(.str w,.bool true,k+(l.length+1))])
  rw[show k+1+l.length=k+(l.length+1) by omega]
theorem IH (w:List UInt8):∀(k:Nat) (l:List (List UInt8)),∃r,ZG (.one .string) (.str w) (Zy k l)=some r∧(r=none↔l.contains w=false)∧iq false (.bool false) r= .bool (l.contains w)
 |_,[]=>⟨none,rfl,⟨fun _=>rfl,fun _=>rfl⟩,rfl⟩
 |k,a::l=>by
  obtain⟨r,h1,h2,h3⟩:=IH w (k+1) l;by_cases ha:w=a
  ·subst ha;refine⟨some (.str w,.bool true,k),?_,?_,?_⟩
   ·show(some (Wo w w)).bind _=_;rw[Bu,decide_eq_true rfl,Qe,h1];rfl
   ·simp
   ·simp[iq]
  ·refine⟨r,?_,?_,?_⟩
   ·show(some (Wo w a)).bind _=_;rw[Bu,decide_eq_false ha,Qe,h1];rfl
   ·rw[h2];simp[ha]
   ·rw[h3];simp[ha]
theorem Ot {st:St} {b:Nat} {l:List (List UInt8)} {w:List UInt8} {clock:Nat} (hg:st.heap.get b=some (.map (Zy 0 l) clock)):eP (.one .string) st false (.bool false) (.map b) (.str w)=some (.bool (l.contains w)):=by
 obtain⟨r,h1,_,h3⟩:=IH w 0 l;show((kq (st.heap.get b)).bind fun es=>(ZG _ _ es).bind fun r=>some (iq false (.bool false) r))=_;rw[hg];show(ZG _ _ (Zy 0 l)).bind _=_;rw[h1,Qe,h3]
theorem Vd {st:St} {b:Nat} {l:List (List UInt8)} {w:List UInt8} (hg:st.heap.get b=some (.map (Zy 0 l) l.length)):
 ∃ob,de (.one .string) st (.str w) (.bool true) (.map b)=some (st.put b (some ob))∧(l.contains w=false→ob= .map (Zy 0 (l++[w])) (l++[w]).length):=by
 obtain⟨r,h1,h2,h3⟩:=IH w 0 l;cases r with
 |none=>
  refine⟨_,?_,fun _=>rfl⟩;show eR (.one .string) st b (.str w) (.bool true) (st.heap.get b)=_;rw[hg];show(ZG _ _ (Zy 0 l)).bind _=_;rw[h1,Qe];show some (st.put b (some (.map (Zy 0 l++[(.str w,.bool true,l.length)]) (l.length+1))))=_;rw[Ou,Nat.zero_add,Qm];rfl
 |some e=>
  refine⟨.map (kA (.one .string) (.str w) (.bool true) (Zy 0 l)) l.length,?_,fun h=>?_⟩
  ·show eR (.one .string) st b (.str w) (.bool true) (st.heap.get b)=_;rw[hg];show(ZG _ _ (Zy 0 l)).bind _=_;rw[h1];rfl
  ·exact absurd (h2.2 h) (by simp)
end
section
variable {E : Env} {fr : Fr} {l : Sl} {s : St} {all rest : List Oper} {o : Oper} {K : Sl → St → Prop}
theorem OB {KP:AV→Sl→St→Prop} {c:Call} {t f:Nat} {first captured args xs:List AV} {d:Nat} (hb:CI E f=true) (ho:o.op= .call c) (hc:c.callee= .value (.tmp t)) (hv:look t l=some (.func (.func f) first captured)) (ha:Xd c.args.toList l=some args) (hg:o.guard=none) (hd:o.dst=some d)
 (C6:Nat.blt d fr.nt=true) (hx:first++args++captured=xs) (h:Wf E f xs s fun v s'=>VE E KP all rest fr ((d,v)::l) s' K):VE E KP all (o::rest) fr l s K:=by
 subst hx;refine V2 (F:=Cc E (.tmp t)) (A:=CO E c.args.toList) ?_ (fun T hT=>hT t _ hv) (fun T hT=>B4 hT ha) hb hg hd C6 h;rw[ho];show VV E o.type c=_;unfold VV;rw[hc]
end
theorem Dh {E:Env} {l:Sl} {o:Oper} {t e:TypeId} {x i:Operand} {sz:Nat} {z:Int} {ik:IntKind} {a p:AV} (ho:o.op= .indexAddr t x i) (hu:C7 E t=some (.slice e)) (hs:sizeOf E e=some (sz+1)) (hx:Ce x l=some a) (hi:Ce i l=some (.int ik z)) (hz:0≤z) (hp:CQ (sz+1) z.toNat a=some p):Wj E o l p:=
 Ae (k:=z.toNat) ho hu hs hx (by rw[hi,Int.toNat_of_nonneg hz]) hp
section
variable {E : Env} {fr : Fr} {l : Sl} {st : St} {o : Oper} {all rest : List Oper} {i : Nat} {js : List Nat} {nl : W8} {K : Sl → St → Prop} {od : Option Nat}
theorem KO {KN:PN} {v:AV} (hq:WH (Xg E o.type o.op)=true) (fE:∀T,Has (VM (tmpsOf o.op.operands.toList) l) T→Wh (Xg E o.type o.op) T= .all)
 (ho:Ws E o fr (VM (tmpsOf o.op.operands.toList) l) (st.sub st.heap) v (st.sub st.heap)) (aC:(nl.all fun p=>Nat.testBit (Ok all i) p.1)=true) (hg:Wc all l o) (hd:o.dst=od) (C6:WA fr.nt od=true)
 (h:VH E KN all rest (i+1) fr (Xe od v l) st (i::js) nl K):VH E KN all (o::rest) i fr l st js nl K:=by
 refine Jw hq (fun T news hn hT=>⟨.inl (Qh ..),?_⟩) (fun j hj=>Qg _ hj) hg hd C6 h;rw[fE T hT];have:VP (Ok all i) news st.heap .all=st.heap:=FF aC hn;rw[this];exact Jv (ho T hT)
end
theorem Grown.own {s:St} {e:TypeId} {sz n:Nat} {v:AV} {cs:List AV} (h:Grown s e sz v cs n) {c:Nat} (hc:Ci c v=true):c<s.next:=by
 rcases h with⟨rfl,_⟩|⟨b,rfl,hb,_⟩
 ·cases hc
 ·have:=Qb (show Nat.beq b c=true from hc);omega
theorem E3 {s:St} {b sz:Nat} {new:List AV} {e:TypeId} {part:Bool} {cap:Option Nat} (hg:s.heap.get b=some (.cells new e part)) (en:new.length=sz):WG s sz (.slice b 0 1 sz cap)=some (new,1):=by
 show(bif Nat.beq sz sz then(VZ (s.heap.get b)).bind fun cs=>(WM 0 cs).bind fun l=>(takeN (1*sz) l).bind fun l=>some (l,1)else none)=_;rw[Nat.beq_refl,hg];show(takeN (1*sz) new).bind _=_;rw[Nat.one_mul,←en,HF];rfl
section
variable {E : Env} {fr : Fr} {l : Sl} {st : St} {o : Oper} {all rest : List Oper} {i : Nat} {js : List Nat} {nl : W8} {K : Sl → St → Prop} {od : Option Nat}
end
theorem IW {α:Type}:∀ {vs b7 post:List α},b7.length=vs.length→aI vs (b7++post)=some (vs++post)
 | [],[],post,_=>rfl
 |v::vs,m::b7,post,h=>by
  have ih:=IW (vs:=vs) (b7:=b7) (post:=post) (Nat.succ.inj h);show bL v (aI vs (b7++post))=_;rw[ih];rfl
theorem QC {α:Type} {vs b7 post:List α} (h:b7.length=vs.length):∀ {pre:List α},over vs pre.length (pre++(b7++post))=some (pre++(vs++post))
 | []=>IW h
 |a::pre=>by
  have ih:=QC h (post:=post) (pre:=pre);show bL a (over vs pre.length (pre++(b7++post)))=_;rw[ih];rfl
section
variable {E : Env} {fr : Fr} {l : Sl} {st s : St} {o : Oper} {all rest : List Oper} {i : Nat} {js : List Nat} {nl : W8} {K : Sl → St → Prop} {od : Option Nat}
theorem MY {t e:TypeId} {x y:Operand} {sz WJ n:Nat} {k k2:IntKind} {z:AV} (ho:o.op= .makeSlice t x y) (hu:C7 E t=some (.slice e)) (hs:sizeOf E e=some sz) (hb:bytesOf E e=some WJ) (hz:zeroOf E e=some z) (hk:Nat.beq (W6 z.cells) sz=true)
 (hx:Ce x l=some (.int k (n:Nat))) (hy:Ce y l=some (.int k2 (n:Nat))) (hn:n≠0) (Y1:small n WJ=true):Ws E o fr l s (.slice s.next 0 n sz (some n)) (s.alloc (.cells (WQ z.cells n) e false)):=fun T hT=>
 FQ (f:=fun T=>(Cc E x T).bind fun a=>(Cc E y T).bind fun b=>(VW a).bind fun n=>(VW b).bind fun m=>Yw e sz WJ z.cells n m) (ob:= .cells (WQ z.cells n) e false) (g:=fun b=> .slice b 0 n sz (some n)) (by
  rw[ho];show ZJ E t x y=_;unfold ZJ;rw[hu];simp only[hs,hb,hz,hk,cond_true]) (by
  have h1:VW (.int k (n:Nat))=some n:=rfl;have h2:VW (.int k2 (n:Nat))=some n:=rfl;have du:Nat.beq n 0=false:=by
   cases hb:Nat.beq n 0 with
   |false=>rfl
   |true=>exact absurd (Qb hb) hn
  simp only[Al hT hx,Al hT hy,Qe,h1,h2];unfold Yw;rw[Qd (Qj n),Y1,du];rfl)
end
section
variable {E : Env} {l : Sl} {o : Oper}
theorem Wj.shr {t yt:TypeId} {x y:Operand} {k j:IntKind} {a b:Int} {v:AV} (ho:o.op= .binOp .shr t x y yt) (hu:C7 E t=some (.int k)) (hx:Ce x l=some (.int k a)) (hy:Ce y l=some (.int j b)) (hv:oU k a b=some v):Wj E o l v:=
 AJ (f:=fun T=>(Cc E x T).bind fun a=>(Cc E y T).bind fun b=>gr oU a b) (by
  rw[ho];show eL E .shr t x y=_;unfold eL;rw[hu];rfl) fun _ hT=>by simp only[Al hT hx,Al hT hy,Qe,gr,hv]
end
section
variable {E : Env} {fr : Fr} {l : Sl} {s st : St} {o : Oper} {all rest : List Oper} {i : Nat} {js : List Nat} {nl : W8} {K : Sl → St → Prop} {od : Option Nat}
theorem V0 {KN:PN} (hq:WH (Xg E o.type o.op)=true) (fE:∀T,Wh (Xg E o.type o.op) T= .all) (eu:cR (Ok all i) js=true) (aC:(nl.all fun p=>Nat.testBit (Ok all i) p.1)=true) (hg:Wc all l o) (hd:o.dst=od) (C6:WA fr.nt od=true)
 (h:∀T,Has (VM (tmpsOf o.op.operands.toList) l) T→∃v s2,bY E o fr T (st.sub st.heap) v s2∧st.next≤s2.next∧(∀b∈s2.log,b<st.next)∧∀ez,VH E KN all rest (i+1) fr (Xe od v l) (st.merged s2) (i::js) ez K):VH E KN all (o::rest) i fr l st js nl K:=by
 intro T0 T news looked hT Zx gU dO;obtain⟨v,s2,⟨N,hN⟩,az,Wm,h⟩:=h _ (hT.VM (tmpsOf o.op.operands.toList));let dd:fJ:=Yr E all i o
 let q:Zv:=⟨T,st,news,looked⟩
 let TP:=Xb T (tmpsOf o.op.operands.toList) .nil
 let re:=aU dd q (.all,v,s2)
 have YI:dd.CS=Ok all i:=rfl;obtain⟨M,ex,l',T',s',hk,hr⟩:=h (Xi i (Xi i nl (Yb st.next (s2.next-st.next))) s2.log) T0 (bf od v T) (Xi i (Xi i news (Yb st.next (s2.next-st.next))) s2.log) ((i,.all,re)::looked) (hT.Xe od v)
  (fun p hp=>DQ (fun p hp=>DQ Zx hp) hp) (fun p hp=>by
  rcases Qk.1 hp with rfl|hp
  ·exact .inl (Qh ..)
  ·exact(gU p hp).imp (Qg _) id) dO.cons
 refine⟨max N M,ex,l',T',s',hk,fun n hn=>?_⟩;have bj:WS E (ev E n) fr dd q TP=some (.all,v,s2):=by
  unfold WS;have vq:WH dd.so=true:=hq;rw[vq];simp only[cond_true];have ht:Wh dd.so TP= .all:=fE TP;rw[ht];have Xp:=hN n (by omega) K0;have hH:VP (Ok all i) news st.heap .all=st.heap:=FF aC Zx;show Ye .all ((WW E (Xg E o.type o.op) K0).run (ev E n) fr TP (st.sub (VP dd.CS news st.heap .all)))=_;rw[YI,hH,Xp];rfl
 have nB:∀L:List Nat,(∀b∈L,b<st.next)→Wp dd.CS st.next s2.next s2.heap q L=true:=by
  intro L;induction L with
  |nil=>intro _;rfl
  |cons b L ih=>
   intro hL;unfold Wp;have h1:Nat.blt b st.next=true:=Qd (hL b (Qh ..));have h2:X4 dd.CS b q.news=false:=BT (Dr aC) Zx;have h3:YB dd.CS b s2.next (s2.heap.get b) q.looked=true:=Ik eu gU;rw[h1,h2,h3,ih fun c hc=>hL c (Qg _ hc)];rfl
 have ae:VF fr.nt dd q (.all,v,s2)=some ⟨bf od v T,st.merged s2,Xi i (Xi i news (Yb st.next (s2.next-st.next))) s2.log,(i,.all,re)::looked⟩:=by
  unfold VF;have h1:Nat.ble q.st.next s2.next=true:=Qd az;have h2:Wp dd.CS q.st.next s2.next s2.heap q s2.log=true:=nB s2.log Wm;have h3:dd.o.dst=od:=hd;simp only[h1,h2,h3,Bool.and_self,cond_true,I5 C6,Qe];rfl
 exact Ew (runN hT hg bj) ae (hr n (by omega))
end
theorem Uo {st s2:St} (hn:st.next≤s2.next) (YR:∀c,c<st.next→c∉s2.log→s2.heap.get c=st.heap.get c):∀c,c<s2.next→(st.merged s2).heap.get c=s2.heap.get c:=by
 intro c hc;show(W5 s2.heap (Yb st.next (s2.next-st.next)) (W5 s2.heap s2.log st.heap)).get c=_;rw[Dc,Dc];by_cases h1:c∈Yb st.next (s2.next-st.next)
 ·rw[if_pos h1]
 ·rw[if_neg h1];by_cases h2:c∈s2.log
  ·rw[if_pos h2]
  ·rw[if_neg h2];by_cases h3:c<st.next
   ·exact(YR c h3 h2).symm
   ·exact absurd (Mu.2 ⟨by omega,by omega⟩) h1
theorem Pp {s:St} {b c:Nat} {o:Option CB} (h:c∈s.log):c∈(s.put b o).log:=by
 show c∈(bif Nat.blt b s.bound then Xt b s.log else s.log);cases Nat.blt b s.bound with
 |false=>exact h
 |true=>
  rw[cond_true];cases hl:s.log with
  |nil=>rw[hl]at h;cases h
  |cons d l=>
   rw[hl]at h;show c∈(bif Nat.beq b d then d::l else b::d::l);cases Nat.beq b d with
   |true=>exact h
   |false=>exact Qg _ h
def Told (s s':St):Prop:=∀d,d<s.bound→d∉s'.log→s'.heap.get d=s.heap.get d
theorem dT {p:Prop} [Decidable p] (h:decide p=true):p:=of_decide_eq_true h
theorem dF {p:Prop} [Decidable p] (h:decide p=false):¬p:=of_decide_eq_false h
theorem LL {α:Type}:(∀a b:List α,(a++b).length=a.length+b.length)∧(∀(a:α) (b:List α),(a::b).length=b.length+1)∧([]:List α).length=0∧(∀(i:Nat) (b:List α),(b.take i).length=min i b.length)∧∀(i:Nat) (b:List α),(b.drop i).length=b.length-i:=
 ⟨fun _ _=>Qm,fun _ _=>rfl,rfl,fun _ _=>List.length_take,fun _ _=>List.length_drop⟩
theorem t2 {α β:Type} {a a':α} {b b':β} (h:(a,b)=(a',b')):a=a'∧b=b':=by cases h;exact⟨rfl,rfl⟩
section
variable {E : Env} {fr : Fr} {l : Sl} {s : St} {all rest : List Oper} {o : Oper} {K : Sl → St → Prop} {Q : Ex → Fr → Sl → St → Prop} {v : AV} {s' : St} {d : Nat}
theorem Ld {KP:AV→Sl→St→Prop} (h:K l s):VE E KP all [] fr l s K:=V3 h
theorem Lo {KP:AV→Sl→St→Prop} (ho:Ws E o fr l s v s') (hg:(o.guard,o.dst,Nat.blt d fr.nt)=(none,some d,true)) (h:VE E KP all rest fr ((d,v)::l) s' K):VE E KP all (o::rest) fr l s K:=
 VE.op ho (t2 hg).1 (t2 (t2 hg).2).1 (t2 (t2 hg).2).2 h
theorem Lq {KP:AV→Sl→St→Prop} (ho:Wj E o l v) (hg:(o.guard,o.dst,Nat.blt d fr.nt)=(none,some d,true)) (h:VE E KP all rest fr ((d,v)::l) s K):VE E KP all (o::rest) fr l s K:=
 Lo (Ws.q ho) hg h
theorem qa {KP:AV→Sl→St→Prop} {x:Operand} (hg:(o.op,Ce x l,o.guard,o.dst,Nat.blt d fr.nt)=(.assign x,some v,none,some d,true)) (h:VE E KP all rest fr ((d,v)::l) s K):VE E KP all (o::rest) fr l s K:=
 Lq (Wj.assign (t2 hg).1 (t2 (t2 hg).2).1) (t2 (t2 hg).2).2 h
theorem qm {KP:AV→Sl→St→Prop} {x:Operand} (hg:(o.op,Ce x l,o.guard,o.dst,Nat.blt d fr.nt)=(.move x,some v,none,some d,true)) (h:VE E KP all rest fr ((d,v)::l) s K):VE E KP all (o::rest) fr l s K:=
 Lq (Rw (t2 hg).1 (t2 (t2 hg).2).1) (t2 (t2 hg).2).2 h
theorem o2 {op:BinOp} {t yt:TypeId} {x y:Operand} {k:IntKind} {a b:Int} {f:IntKind→Int→Int→Option AV} (hu:C7 E t=some (.int k)) (ho:(o.op,lS op)=(.binOp op t x y yt,some f))
 (hx:(Ce x l,Ce y l,f k a b)=(some (.int k a),some (.int k b),some v)):Wj E o l v:=
 DY (t2 ho).1 hu (t2 ho).2 (t2 hx).1 (t2 (t2 hx).2).1 (t2 (t2 hx).2).2
theorem of {t:TypeId} {x:Operand} {i off n:Nat} {agg:Bool} {b k:Nat} (hf:Cf E t i=some (off,n+1,agg)) (ho:(o.op,Ce x l)=(.fieldAddr t x i,some (.ptr b k))):Wj E o l (.ptr b (k+off)):=
 MW (t2 ho).1 hf (t2 ho).2
theorem oT {c x y:Operand} {b:Bool} (ho:(o.op,Ce c l)=(.pick c x y,some (.bool b))) (hb:b=true) (hx:Ce x l=some v):Wj E o l v:=V5 (t2 ho).1 (t2 ho).2 hb hx
theorem oF {c x y:Operand} {b:Bool} (ho:(o.op,Ce c l)=(.pick c x y,some (.bool b))) (hb:b=false) (hx:Ce y l=some v):Wj E o l v:=V6 (t2 ho).1 (t2 ho).2 hb hx
theorem oe {x:Operand} {i:Nat} {vs:List AV} (ho:(o.op,Ce x l,nth vs i)=(.extract x i,some (.tuple vs),some v)):Wj E o l v:=Wj.extract (t2 ho).1 (t2 (t2 ho).2).1 (t2 (t2 ho).2).2
theorem on {t:TypeId} {x:Operand} {b:Bool} (ho:(o.op,Ce x l)=(.unOp .not t x,some (.bool b))):Wj E o l (.bool (!b)):=Wj.not (t2 ho).1 (t2 ho).2
theorem om {x:Operand} (ho:(o.op,Ce x l)=(.move x,some v)):Wj E o l v:=Rw (t2 ho).1 (t2 ho).2
theorem oa {x:Operand} (ho:(o.op,Ce x l)=(.assign x,some v)):Wj E o l v:=Wj.assign (t2 ho).1 (t2 ho).2
theorem ol {c:Call} {t e:TypeId} {ts:List TypeId} {x:Operand} {cs:List AV} {n sz:Nat} {cl:Bool} (hu:C7 E t=some (.slice e)) (ho:(o.op,c.callee,c.argTypes.toList,c.args.toList,Ce x l)=(.call c,.builtin .len,t::ts,[x],some (.Cd cs n sz cl))):
 Wj E o l (.int .i64 (n:Nat)):=V9 (t2 ho).1 (t2 (t2 ho).2).1 (t2 (t2 (t2 ho).2).2).1 (t2 (t2 (t2 (t2 ho).2).2).2).1 hu (t2 (t2 (t2 (t2 ho).2).2).2).2
variable {j e : Nat} {w b : Bool} {oj : Oper}
theorem Lk {KP:AV→Sl→St→Prop} (hg:(o.guard,nth all j,oj.dst,look e l,o.dst,Nat.blt d fr.nt)=(some (j,w),some oj,some e,some (.bool b),some d,true)) (hb:b= !w) (h:VE E KP all rest fr ((d,.tuple [])::l) s K):VE E KP all (o::rest) fr l s K:=
 have h1:=t2 hg;have h2:=t2 h1.2;have h3:=t2 h2.2;have h4:=t2 h3.2;have h5:=t2 h4.2
 V1 h1.1 h2.1 h3.1 h4.1 hb h5.1 h5.2 h
theorem Lg {KP:AV→Sl→St→Prop} (hg:(o.guard,nth all j,oj.dst,look e l,o.dst,Nat.blt d fr.nt)=(some (j,w),some oj,some e,some (.bool b),some d,true)) (hb:b=w) (ho:Ws E o fr l s v s') (h:VE E KP all rest fr ((d,v)::l) s' K):VE E KP all (o::rest) fr l s K:=
 have h1:=t2 hg;have h2:=t2 h1.2;have h3:=t2 h2.2;have h4:=t2 h3.2;have h5:=t2 h4.2
 VE.go h1.1 h2.1 h3.1 h4.1 hb ho h5.1 h5.2 h
theorem Lh {KP:AV→Sl→St→Prop} (hg:(o.guard,nth all j,oj.dst,look e l,o.dst,Nat.blt d fr.nt)=(some (j,w),some oj,some e,some (.bool b),some d,true)) (hb:b=w) (ho:Wj E o l v) (h:VE E KP all rest fr ((d,v)::l) s K):VE E KP all (o::rest) fr l s K:=
 Lg hg hb (Ws.q ho) h
theorem Lb {KP:AV→Sl→St→Prop} (hg:(o.guard,nth all j,oj.dst,look e l)=(some (j,w),some oj,some e,some (.bool b))) (h1:b=true→VE E KP all (o::rest) fr l s K) (h0:b=false→VE E KP all (o::rest) fr l s K):VE E KP all (o::rest) fr l s K:=
 have h2:=t2 hg;have h3:=t2 h2.2;have h4:=t2 h3.2
 V4 h2.1 h3.1 h4.1 h4.2 h1 h0
theorem Es {k:Nat} {ops:Array Oper} {b:Code} (h:VE E (fun v l s=>Q (.panic v) fr l s) ops.toList ops.toList fr l s fun l s=>Ch E b fr l s Q):Ch E (.seq (.region k ops false) b) fr l s Q:=Qq h
theorem Ec {x:Operand} {a b:Code} {t:Bool} (hx:Ce x l=some (.bool t)) (h1:t=true→Ch E a fr l s Q) (h0:t=false→Ch E b fr l s Q):Ch E (.cond x a b) fr l s Q:=KT hx h1 h0
theorem Er {t:Nat} {rs:List ResultVar} {w v v':AV} {ks:List Nat} (hg:(fr.defers,s.log,s.bound,rs,look t l,CH s 0 40 v [],Cz 0 40 w)=([],[],0,[.tmp t],some v,some (w,ks),true)) (hw:w=v'):
 (Ex.ret= .ret∨Ex.ret= .normal)∧fr.defers=[]∧s.log=[]∧s.bound=0∧∃vs w ks,CT E s l rs=some vs∧CH s 0 40 (ZM vs) []=some (w,ks)∧Cz 0 40 w=true∧w=v':=by
 have h1:=t2 hg;have h2:=t2 h1.2;have h3:=t2 h2.2;have h4:=t2 h3.2;have h5:=t2 h4.2;have h6:=t2 h5.2;refine⟨.inl U,h1.1,h2.1,h3.1,[v],w,ks,?_,h6.1,h6.2,hw⟩;rw[h4.1];exact An h5.1 rfl
end
section
variable {E : Env} {fr : Fr} {l : Sl} {o : Oper} {n m bd : Nat} {lg : List Nat} {hl : Hl}
theorem l1 {t:TypeId} {a:Operand} {k b off:Nat} {v:AV} {cs:List AV} {e:TypeId} {part:Bool} (h1:isAgg E t=some false) (h2:sizeOf E t=some k)
 (ho:(o.op,Ce a l,cS b hl,cs[off]?)=(.load t a,some (.ptr b off),some (.cells cs e part),some v)):Ws E o fr l (WZ n bd lg hl) v (WZ n bd lg hl):=
 have h:=t2 ho;have h':=t2 h.2;have h'':=t2 h'.2
 SL h.1 h1 h2 h'.1 h''.1 h''.2
end
section
variable {E : Env} {fr : Fr} {l : Sl} {st : St} {o : Oper} {all rest : List Oper} {i : Nat} {js : List Nat} {nl : W8} {K : Sl → St → Prop} {od : Option Nat} {v : AV} {j e : Nat} {w b : Bool} {oj : Oper}
theorem Nq {KN:PN} (ho:Wj E o (VM (tmpsOf o.op.operands.toList) l) v) (hg:(o.guard,o.dst,WA fr.nt od)=(none,od,true)) (h:VH E KN all rest (i+1) fr (Xe od v l) st js nl K):VH E KN all (o::rest) i fr l st js nl K:=
 PT ho (.inl (t2 hg).1) (t2 (t2 hg).2).1 (t2 (t2 hg).2).2 h
theorem Ng {KN:PN} (hg:(o.guard,nth all j,oj.dst,look e l,o.dst,WA fr.nt od)=(some (j,w),some oj,some e,some (.bool b),od,true)) (hb:b=w) (ho:Wj E o (VM (tmpsOf o.op.operands.toList) l) v) (h:VH E KN all rest (i+1) fr (Xe od v l) st js nl K):VH E KN all (o::rest) i fr l st js nl K:=
 have h1:=t2 hg;have h2:=t2 h1.2;have h3:=t2 h2.2;have h4:=t2 h3.2;have h5:=t2 h4.2
 PT ho (Bl h1.1 h2.1 h3.1 h4.1 hb) h5.1 h5.2 h
theorem Nk {KN:PN} (hg:(o.guard,nth all j,oj.dst,look e l,o.dst,WA fr.nt od)=(some (j,w),some oj,some e,some (.bool b),od,true)) (hb:b= !w) (h:VH E KN all rest (i+1) fr (Xe od (.tuple []) l) st js nl K):VH E KN all (o::rest) i fr l st js nl K:=
 have h1:=t2 hg;have h2:=t2 h1.2;have h3:=t2 h2.2;have h4:=t2 h3.2;have h5:=t2 h4.2
 Vy h1.1 h2.1 h3.1 h4.1 hb h5.1 h5.2 h
theorem Nt {KN:PN} (hg:(o.guard,nth all j,oj.dst,look e l,o.dst,WA fr.nt od)=(some (j,w),some oj,some e,some (.tuple []),od,true)) (h:VH E KN all rest (i+1) fr (Xe od (.tuple []) l) st js nl K):VH E KN all (o::rest) i fr l st js nl K:=
 have h1:=t2 hg;have h2:=t2 h1.2;have h3:=t2 h2.2;have h4:=t2 h3.2;have h5:=t2 h4.2
 SD h1.1 h2.1 h3.1 h4.1 h5.1 h5.2 h
end
section
variable {E : Env} {fr : Fr} {l : Sl} {st : St} {o : Oper} {all rest : List Oper} {i : Nat} {js : List Nat} {nl : W8} {K : Sl → St → Prop} {od : Option Nat}
end
end Am
