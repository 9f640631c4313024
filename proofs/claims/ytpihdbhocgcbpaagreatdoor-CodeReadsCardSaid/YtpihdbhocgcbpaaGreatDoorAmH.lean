/- The abstract machine: tables that are laid; what is logged; panics. -/
import Derived.Test.YtpihdbhocgcbpaaGreatDoorAmG
set_option linter.unusedSectionVars false
set_option linter.unusedVariables false
set_option linter.unusedSimpArgs false
namespace Am
open Go
abbrev Glob:=Nat→Option (List AV)
noncomputable def envG (P:Program) (nt nf mask:Nat) (K:FuncId→List AV→Option AV) (gl:Glob):Env:= {envK P nt nf mask K with glob:=gl}
def GlobS (gl:Glob) (C:Cx):Prop:=∀g cs,gl g=some cs→∃ms,C.M g=some ms∧VRs C cs ms∧Cells cs
def KnownG (P:Program) (gl:Glob) (f:FuncId) (args:List AV) (v:AV):Prop:=
 ∀(C:Cx) (S:St) (w:World) (xs:Array Value) (c:Frame) (cs:List Frame),GlobS gl C→VRs C args xs.toList→StR C S w→Returns P (lone (Frame.enter P f xs .normal) (c::cs) w) c cs C S w (.same v)
def KnownGs (P:Program) (gl:Glob) (K:FuncId→List AV→Option AV):Prop:=∀f args v,K f args=some v→KnownG P gl f args v
theorem KnownF.g {P:Program} {gl:Glob} {f:FuncId} {args:List AV} {v:AV} (h:KnownF P f args v):KnownG P gl f args v:=fun C S w xs c cs _ hv hS=>h C S w xs c cs hv hS
theorem KnownAll.g {P:Program} {gl:Glob} {K:FuncId→List AV→Option AV} (h:KnownAll P K):KnownGs P gl K:=fun f args v hv=>(h f args v hv).g
section
variable {P : Program} {nt nf mask : Nat} {K : FuncId → List AV → Option AV} {gl : Glob}
theorem DB {α:Type} {f:FuncId} {enc:α→List AV} {res:α→AV} (hK:KnownGs P gl K) (h:∀a,KnownG P gl f (enc a) (res a)):KnownGs P gl (addC K f enc res):=by
 intro g args v hv
 unfold addC at hv
 cases hb:Nat.beq g f with
 |false=>rw[hb]at hv;exact hK g args v hv
 |true=>
  rw[hb]at hv
  have:=Qb hb
  subst this
  obtain⟨a,rfl,rfl⟩:=specOf_some hv
  exact h a
end
def kU:IntKind→Bool
 | .u32| .u64=>true
 |_=>false
section
variable {E : Env} {l : Sl} {o : Oper} {k : IntKind} {t yt : TypeId} {x y : Operand} {a b : Nat}
theorem Ff {e:TypeId} {i:Operand} {n sz m:Nat} {ik:IntKind} {p q:AV} (ho:o.op= .indexAddr t x i) (hu:und E t=some (.array n e)) (hs:sizeOf E e=some (sz+1)) (hx:opndL x l=some p) (hi:opndL i l=some (.int ik (m:Nat))) (hm:m<n) (hq:addrAdd (m*(sz+1)) p=some q):OpQ E o l q:=
 AO (f:=fun T=>(opnd E i T).bind fun iv=>(natOf iv).bind fun k=>bif Nat.blt k n then(opnd E x T).bind (addrAdd (k*(sz+1)))else none) (by
  rw[ho]
  show indexAddrC E t x i=_
  unfold indexAddrC
  rw[hu]
  simp only[hs]) fun T hT=>by
  simp only[Au hT hx,Au hT hi,Qe]
  show(natOf (.int ik (m:Nat))).bind _=_
  rw[show natOf (.int ik (m:Nat))=some m from by unfold natOf;simp]
  simp only[Qe,show Nat.blt m n=true from Qd hm,cond_true,hq]
end
section
variable {E : Env} {fr : Fr} {l : Sl} {st : St} {o : Oper} {all rest : List Oper} {i : Nat} {js : List Nat} {nl : News} {K : Sl → St → Prop} {od : Option Nat}
theorem By {KN:PN} {t:TypeId} {a x:Operand} {k b off:Nat} {v:AV} {cs cs':List AV} {e:TypeId} {part:Bool} (hbn:b<st.next) (ho:o.op= .store t a x) (hn:sizeOf E t=some k)
 (ha:opndL a (restr (tmpsOf o.op.operands.toList) l)=some (.ptr b off)) (hx:opndL x (restr (tmpsOf o.op.operands.toList) l)=some v) (hg0:st.heap.get b=some (.cells cs e part)) (hlen:v.cells.length=k) (htup:v.isTuple=false) (hov:over v.cells off cs=some cs')
 (hc:clearB (ancOf all i) b nl=true) (hjs:seenB (ancOf all i) js=true) (hg:GuardOn all l o) (hd:o.dst=od) (hlt:dstOk fr.nt od=true)
 (h:RegN E KN all rest (i+1) fr (putL od (.tuple []) l) {st with log:=bif Nat.blt b st.bound then b::st.log else st.log,heap:=st.heap.set b (some (.cells cs' e part))} (i::js) ((i,b)::nl) K):RegN E KN all (o::rest) i fr l st js nl K:=by
 have hsub:(st.sub (Tr.set .nil b (st.heap.get b))).heap.get b=some (.cells cs e part):=by
  show(Tr.set .nil b (st.heap.get b)).get b=_
  rw[AW,if_pos rfl,hg0]
 have hlog:((st.sub (Tr.set .nil b (st.heap.get b))).put b (some (.cells cs' e part))).log=[b]:=by
  show(bif Nat.blt b st.next then [b]else [])=_
  rw[show Nat.blt b st.next=true from Qd hbn];rfl
 have hm:st.merged ((st.sub (Tr.set .nil b (st.heap.get b))).put b (some (.cells cs' e part)))= {st with log:=bif Nat.blt b st.bound then b::st.log else st.log,heap:=st.heap.set b (some (.cells cs' e part))}:=by
  have hh:copyAll ((st.sub (Tr.set .nil b (st.heap.get b))).put b (some (.cells cs' e part))).heap (newL st.next (st.next-st.next)) (copyAll ((st.sub (Tr.set .nil b (st.heap.get b))).put b (some (.cells cs' e part))).heap [b] st.heap)=st.heap.set b (some (.cells cs' e part)):=by
   rw[Nat.sub_self]
   show st.heap.set b _=_
   rw[show((st.sub (Tr.set .nil b (st.heap.get b))).put b (some (.cells cs' e part))).heap.get b=some (.cells cs' e part)from by
    show((Tr.set .nil b (st.heap.get b)).set b (some (.cells cs' e part))).get b=_
    rw[AW,if_pos rfl]]
  unfold St.merged
  rw[hlog]
  show St.mk st.next st.bound _ _=_
  congr 1
 have:=RegN.acts (E:=E) (KN:=KN) (all:=all) (rest:=rest) (fr:=fr) (K:=K) (od:=od) (nl:=nl) (js:=js) (i:=i) (o:=o) (l:=l) (st:=st) (x:=opnd E a) (one:=true) (tch:= .block b) (H:=Tr.set .nil b (st.heap.get b)) (v:= .tuple []) (s2:=(st.sub (Tr.set .nil b (st.heap.get b))).put b (some (.cells cs' e part)))
  (f:=fun T s=>(opnd E a T).bind fun p=>(opnd E x T).bind fun v=>withU (storeN k s v p)) (by
   rw[ho]
   show storeC E t a x=_
   unfold storeC
   rw[hn]) (fun T hT=>by
   show touchB (blockOf (opnd E a T))=_
   rw[Au hT ha];rfl) (fun news hnw=>by
   show(bif hiddenB (ancOf all i) b news then _ else _)=_
   rw[DG hc hnw];rfl) (Ar ho hn ha hx (Aq hsub hlen htup hov)) (Qj _) (fun c hc'=>by
   rw[hlog,Qo]at hc'
   subst hc'
   exact⟨hbn,hc⟩) hjs hg hd hlt
 rw[hm,hlog]at this
 apply this
 show RegN E KN all rest (i+1) fr _ _ _ (tagL i (tagL i nl (newL st.next (st.next-st.next))) [b]) K
 rw[Nat.sub_self]
 exact h
end
section
variable {E : Env} {fr : Fr} {l : Sl} {st s : St} {o : Oper} {all rest : List Oper} {i : Nat} {js : List Nat} {nl : News} {K : Sl → St → Prop} {od : Option Nat}
end
structure Loggd (s s':St):Prop where
 bound:s'.bound=s.bound
 more:∀c∈s.log,c∈s'.log
 same:∀c,c<s.bound→c∉s'.log→s'.heap.get c=s.heap.get c
theorem Loggd.refl {s:St}:Loggd s s:=⟨rfl,fun _ h=>h,fun _ _ _=>rfl⟩
theorem Loggd.trans {s s1 s2:St} (h:Loggd s s1) (h2:Loggd s1 s2):Loggd s s2:=
 ⟨h2.bound.trans h.bound,fun c hc=>h2.more c (h.more c hc),fun c hc hn=>(h2.same c (by rw[h.bound];exact hc) hn).trans (h.same c hc fun hm=>hn (h2.more c hm))⟩
theorem Loggd.put {s:St} {b:Nat} {o:Option AObj}:Loggd s (s.put b o):=
 ⟨rfl,fun _ hc=>mem_put_old hc,fun c hc hn=>by
  rw[Bl]
  split
  ·next e=>subst e;exact absurd (mem_put_self hc) hn
  ·rfl⟩
theorem Loggd.alloc {s:St} {o:AObj} (hb:s.bound≤s.next):Loggd s (s.alloc o):=
 ⟨rfl,fun _ hc=>hc,fun c hc _=>by
  show(s.heap.set s.next _).get c=_
  rw[AW,if_neg (by omega)]⟩
theorem BM {n c:Nat}:∀ {L l:List Nat},(c∈L∧c<n)∨c∈l→c∈below n L l
 | [],l,h=>by
  rcases h with⟨h,_⟩|h
  ·cases h
  ·exact h
 |b::r,l,h=>by
  show c∈(bif Nat.blt b n then b::below n r l else below n r l)
  cases hb:Nat.blt b n with
  |true=>
   show c∈b::below n r l
   rcases h with⟨h,hl⟩|h
   ·cases h with
    |head=>exact Qh
    |tail _ h=>exact Qg _ (BM (.inl ⟨h,hl⟩))
   ·exact Qg _ (BM (.inr h))
  |false=>
   show c∈below n r l
   rcases h with⟨h,hl⟩|h
   ·cases h with
    |head=>have:=Qd (show c+1≤n from hl);rw[show Nat.blt c n=Nat.ble (c+1) n from rfl,this]at hb;cases hb
    |tail _ h=>exact BM (.inl ⟨h,hl⟩)
   ·exact BM (.inr h)
theorem Loggd.back {s st:St} (h:Loggd s.enter st) (hb:s.bound≤s.next):Loggd s (s.back st):=
 ⟨rfl,fun c hc=>BM (.inr hc),fun c hc hn=>h.same c (Nat.lt_of_lt_of_le hc hb) fun hm=>hn (BM (.inl ⟨hm,hc⟩))⟩
theorem Loggd.freed {s:St} {b:Nat} {cap:Option Nat}:Loggd s (freed s b cap):=by
 unfold Am.freed
 cases tailO cap with
 |true=>exact Loggd.put
 |false=>exact Loggd.refl
theorem freed_next {s:St} {b:Nat} {cap:Option Nat}:(freed s b cap).next=s.next∧(freed s b cap).bound=s.bound:=by
 unfold Am.freed
 cases tailO cap<;>exact⟨rfl,rfl⟩
theorem appendTo_lg {s s':St} {e:TypeId} {sz by_ n:Nat} {new:List AV} {v v':AV} (hb:s.bound≤s.next) (h:appendTo s e sz by_ new n v=some (v',s')):Loggd s s':=by
 cases v with
 |nilslice=>
  unfold appendTo at h
  cases hn:Nat.beq n 0 with
  |true=>rw[hn]at h;cases h;exact Loggd.refl
  |false=>
   cases hs:small n by_ with
   |true=>rw[hn,hs]at h;cases h;exact Loggd.alloc hb
   |false=>rw[hn,hs]at h;cases h
 |islice cs len sz' cl=>
  unfold appendTo at h
  cases hn:Nat.beq n 0 with
  |true=>rw[hn]at h;cases h;exact Loggd.refl
  |false=>rw[hn]at h;cases h
 |slice b off len sz' cap=>
  unfold appendTo at h
  cases hn:Nat.beq n 0 with
  |true=>rw[hn]at h;cases h;exact Loggd.refl
  |false=>
   rw[hn]at h
   cases hs:(Nat.beq sz' sz&&small (len+n) by_)with
   |false=>simp only[cond_false,hs]at h;cases h
   |true=>
    simp only[cond_false,hs,cond_true]at h
    unfold appendOb at h
    split at h
    ·next cs e0 sl _=>
     unfold appendIn at h
     cases hd:dropN off cs with
     |none=>rw[hd]at h;cases h
     |some l=>
      rw[hd]at h
      simp only[Qe]at h
      cases hf:fitsA sz len n cap l with
      |true=>
       rw[hf]at h
       simp only[cond_true]at h
       cases ho:over new (off+len*sz) cs with
       |none=>rw[ho]at h;cases h
       |some cs'=>rw[ho]at h;cases h;exact Loggd.put
      |false=>
       rw[hf]at h
       simp only[cond_false]at h
       cases hq:(Nat.beq e e0|| !(tailO cap))with
       |false=>rw[hq]at h;cases h
       |true=>
        rw[hq]at h
        simp only[cond_true]at h
        cases ht:takeN (len*sz) l with
        |none=>rw[ht]at h;cases h
        |some old=>
         rw[ht]at h
         cases h
         exact Loggd.freed.trans (Loggd.alloc (by rw[freed_next.1,freed_next.2];exact hb))
    ·cases h
 |_=>cases h
theorem Loggd.heapM {st s2:St} {h:Tr AObj} (hn:st.next≤s2.next) (hl:Loggd (st.sub h) s2) (hh:h=st.heap):∀c,c<s2.next→(st.merged s2).heap.get c=s2.heap.get c:=
 merged_eq hn fun c hc hno=>by subst hh;exact hl.same c hc hno
theorem Loggd.region {st s2:St} (hn:st.next≤s2.next) (hl:Loggd (st.sub st.heap) s2) (hb:st.bound≤st.next):Loggd st (st.merged s2):=
 ⟨rfl,fun c hc=>BM (.inr hc),fun c hc hno=>(Loggd.heapM hn hl rfl c (by omega)).trans (hl.same c (show c<st.next by omega) fun hm=>hno (BM (.inl ⟨hm,hc⟩)))⟩
def ListR (s:St) (v:AV) (cs:List AV):Prop:=
 (v= .nilslice∧cs=[])∨(∃cl,v= .islice cs cs.length 1 cl)∨
  ∃b off cap bc e part,v= .slice b off cs.length 1 cap∧b<s.next∧s.heap.get b=some (.cells bc e part)∧off+cs.length≤bc.length∧(bc.drop off).take cs.length=cs
def FullR (s:St) (e:TypeId) (v:AV) (cs:List AV):Prop:=
 ∃b cap part,v= .slice b 0 cs.length 1 cap∧cs≠ []∧b<s.next∧s.heap.get b=some (.cells cs e part)∧(cap=none∨cap=some cs.length)
def NewsOf (nl:News) (i n:Nat) (lg:List Nat) (nl2:News):Prop:=∀p∈nl2,p∈nl∨(p.1=i∧(n≤p.2∨p.2∈lg))
theorem newsOf_tag {nl:News} {i n k:Nat} {lg:List Nat}:NewsOf nl i n lg (tagL i (tagL i nl (newL n k)) lg):=fun p hp=>by
 rcases tagL_mem.1 hp with⟨h1,h2⟩|hp
 ·exact .inr ⟨h1,.inr h2⟩
 ·rcases tagL_mem.1 hp with⟨h1,h2⟩|hp
  ·exact .inr ⟨h1,.inl (newL_mem.1 h2).1⟩
  ·exact .inl hp
theorem NewsOf.all {nl nl2:News} {i n a:Nat} {lg:List Nat} (h:NewsOf nl i n lg nl2) (h1:(nl.all fun p=>Nat.testBit a p.1)=true) (h2:Nat.testBit a i=true):(nl2.all fun p=>Nat.testBit a p.1)=true:=
 List.all_eq_true.2 fun p hp=>by
  rcases h p hp with hp|⟨rfl,_⟩
  ·exact List.all_eq_true.1 h1 p hp
  ·exact h2
theorem NewsOf.clear {nl nl2:News} {i n a b:Nat} {lg:List Nat} (h:NewsOf nl i n lg nl2) (h1:clearB a b nl=true) (hb:b<n) (hl:b∉lg):clearB a b nl2=true:=
 List.all_eq_true.2 fun p hp=>by
  rcases h p hp with hp|⟨_,h2⟩
  ·exact List.all_eq_true.1 h1 p hp
  ·have hne:p.2≠b:=fun e=>by
    rcases h2 with h2|h2
    ·omega
    ·exact hl (e▸h2)
   cases hh:Nat.beq p.2 b with
   |false=>rfl
   |true=>exact absurd (Qb hh) hne
section
variable {E : Env} {fr : Fr} {l : Sl} {st : St} {o : Oper} {all rest : List Oper} {i : Nat} {js : List Nat} {nl : News} {K : Sl → St → Prop} {od : Option Nat}
end
section
variable {E : Env} {fr : Fr} {l : Sl} {st : St} {o : Oper} {all rest : List Oper} {i p : Nat} {js : List Nat} {nl : News} {K : Sl → St → Prop} {od : Option Nat} {KN : PN}
def PN.add (KN:PN) (e:Rd):PN:= {KN with rl:=e::KN.rl}
theorem eqU_refl_slice {b o n k:Nat} {c:Option Nat}:eqU (.slice b o n k c) (.slice b o n k c)=true:=by
 unfold eqU sameV same1
 simp only[Nat.beq_refl,Bool.true_and,Bool.or_eq_true]
 refine .inr ?_
 cases c with
 |none=>rfl
 |some k=>exact Nat.beq_refl k
theorem RegN.loadR {t:TypeId} {a:Operand} {v:AV} {b off:Nat} {cs:List AV} {e:TypeId} {part:Bool} (ho:o.op= .load t a) (h1:isAgg E t=some false) (h2:sizeOf E t=some 1) (ha:opndL a (restr (tmpsOf o.op.operands.toList) l)=some (.ptr b off))
 (hg0:st.heap.get b=some (.cells cs e part)) (hv:cs[off]?=some v) (he:eqU v v=true) (hu:underV st.next 40 v=true) (hc:clearB (ancOf all i) b nl=true) (hg:GuardOn all l o) (hd:o.dst=od) (hlt:dstOk fr.nt od=true)
 (h:RegN E (KN.add (i,b,fun _ ob=>∃cs e part,ob=some (.cells cs e part)∧cs[off]?=some v)) all rest (i+1) fr (putL od v l) st (i::js) nl K):RegN E KN all (o::rest) i fr l st js nl K:=by
 have hld:∀(s:St) (cs:List AV) (e:TypeId) (part:Bool),s.heap.get b=some (.cells cs e part)→cs[off]?=some v→loadC E t s (.ptr b off)=some v:=by
  intro s cs e part hb hcs
  exact An h1 h2 hb hcs
 intro T0 T news looked hT hnw hlk hrd
 let dd:DOp:=dop E all i o
 let q:DSt:=⟨T,st,news,looked⟩
 let TP:=pickT T (tmpsOf o.op.operands.toList) .nil
 let H:=Tr.set .nil b (st.heap.get b)
 let re:=reOf dd q (.block b,v,st.sub H)
 have hso:dd.so= .read (opnd E a) fun T s=>(opnd E a T).bind (loadC E t s):=by
  show opC E o.type o.op=_
  rw[ho];rfl
 have hTP:Has (restr (tmpsOf o.op.operands.toList) l) TP:=hT.restr _
 have hre:∀n ob,(∃cs e part,ob=some (.cells cs e part)∧cs[off]?=some v)→re n ob=true:=by
  rintro n ob ⟨cs,e,part,rfl,hcs⟩
  show reOf dd q (.block b,v,st.sub H) n _=true
  unfold reOf
  rw[hso]
  simp only
  have:(opnd E a TP).bind (loadC E t {next:=n,bound:=n,log:=[],heap:=Tr.set .nil b (some (.cells cs e part))})=some v:=by
   rw[Au hTP ha]
   exact hld _ cs e part (by show(Tr.set .nil b _).get b=_;rw[AW,if_pos rfl]) hcs
  rw[Qf]
  refine⟨?_,hu⟩
  show reads1 v ((opnd E a TP).bind _)=true
  rw[this]
  exact he
 obtain⟨M,ex,l',T',s',hk,hr⟩:=h T0 (putT od v T) news ((i,.block b,re)::looked) (hT.putL od v) hnw (fun p hp=>by
  rcases Qk.1 hp with rfl|hp
  ·exact .inl (Qh ..)
  ·exact(hlk p hp).imp (Qg _) id) ⟨fun e he=>by
   rcases Qk.1 he with rfl|he
   ·exact Nat.lt_succ_self _
   ·exact Nat.lt_succ_of_lt (hrd.1 e he),(hrd.cons (tch:= .block b) (re:=re)).2.1,fun p hp e he x=>by
   rcases Qk.1 he with rfl|he
   ·rcases Qk.1 hp with rfl|hp
    ·exact⟨rfl,hre⟩
    ·have:=hrd.2.1 p hp
     have x:p.1=i:=x
     omega
   ·exact(hrd.cons (tch:= .block b) (re:=re)).2.2 p hp e he x⟩
 refine⟨M,ex,l',T',s',hk,fun n hn=>?_⟩
 have hgo:drawGo E (ev E n) fr dd q TP=some (.block b,v,st.sub H):=by
  unfold drawGo
  rw[hso]
  show drawGot (touchB (blockOf (opnd E a TP))) _=_
  have ht:touchB (blockOf (opnd E a TP))= .block b:=by rw[Au hTP ha];rfl
  rw[ht]
  show drawGot (.block b) (valOut (fun v=>K0.run (ev E n) fr TP v (st.sub (subHeap dd.anc news st.heap (touchOf (.read (opnd E a) fun T s=>(opnd E a T).bind (loadC E t s)) TP)))) ((opnd E a TP).bind (loadC E t (st.sub (subHeap dd.anc news st.heap (touchOf (.read (opnd E a) fun T s=>(opnd E a T).bind (loadC E t s)) TP))))))=_
  have ht2:touchOf (.read (opnd E a) fun T s=>(opnd E a T).bind (loadC E t s)) TP= .block b:=ht
  have hs:subHeap dd.anc news st.heap (.block b)=H:=by
   show(bif hiddenB (ancOf all i) b news then _ else _)=_
   rw[DG hc hnw];rfl
  rw[ht2,hs,Au hTP ha]
  have:loadC E t (st.sub H) (.ptr b off)=some v:=hld _ cs e part (by show(Tr.set .nil b (st.heap.get b)).get b=_;rw[AW,if_pos rfl];exact hg0) hv
  simp only[Qe,this,valOut]
  rfl
 exact Fj (runN hT hg hgo) (Fk (nt:=fr.nt) (d:=dd) (q:=q) (tch:= .block b) (v:=v) (H:=H) (od:=od) hd hlt) (hr n (by omega))
def RestN (E:Env) (all rest:List Oper) (i p:Nat) (fr:Fr) (l:Sl) (st:St):Prop:=
 ∀(T:Tr AV) (news:News) (looked:Looked),Has l T→∃N,∀n,N≤n→∃q',restAll E all (ev E n) fr p (planD E (befores all) rest i) ⟨T,st,news,looked⟩=some q'∧q'.st=st
theorem RestN.done:RestN E all [] i p fr l st:=fun T news looked _=>⟨0,fun _ _=>⟨_,rfl,rfl⟩⟩
theorem RestN.desc (hx:Nat.testBit (ancOf all i) p=true) (hd:o.dst=od) (hlt:dstOk fr.nt od=true) (h:RestN E all rest (i+1) p fr (putL od (.tuple []) l) st):RestN E all (o::rest) i p fr l st:=by
 intro T news looked hT
 let dd:DOp:=dop E all i o
 let q:DSt:=⟨T,st,news,looked⟩
 obtain⟨N,hN⟩:=h (putT od (.tuple []) T) news ((i,.nothing,reOf dd q (.nothing,.tuple [],st.sub .nil))::looked) (hT.putL od _)
 refine⟨N,fun n hn=>?_⟩
 obtain⟨q',h1,h2⟩:=hN n hn
 refine⟨q',?_,h2⟩
 show(bif Nat.testBit dd.anc p then(drawPut fr.nt dd q (.nothing,.tuple [],q.st.sub .nil)).bind fun q'=>restAll E all (ev E n) fr p (planD E (befores all) rest (i+1)) q' else _)=_
 have:Nat.testBit dd.anc p=true:=hx
 rw[this,cond_true,Fk (nt:=fr.nt) (d:=dd) (q:=q) (tch:= .nothing) (v:= .tuple []) (H:= .nil) (od:=od) hd hlt]
 exact h1
theorem RestN.q {v:AV} (hx:Nat.testBit (ancOf all i) p=false) (ho:OpQ E o (restr (tmpsOf o.op.operands.toList) l) v) (hg:GuardOn all l o) (hd:o.dst=od) (hlt:dstOk fr.nt od=true) (h:RestN E all rest (i+1) p fr (putL od v l) st):RestN E all (o::rest) i p fr l st:=by
 intro T news looked hT
 let dd:DOp:=dop E all i o
 let q:DSt:=⟨T,st,news,looked⟩
 let TP:=pickT T (tmpsOf o.op.operands.toList) .nil
 have hTP:Has (restr (tmpsOf o.op.operands.toList) l) TP:=hT.restr _
 obtain⟨N,hN⟩:=h (putT od v T) news ((i,.nothing,reOf dd q (.nothing,v,st.sub .nil))::looked) (hT.putL od v)
 refine⟨N,fun n hn=>?_⟩
 obtain⟨q',h1,h2⟩:=hN n hn
 refine⟨q',?_,h2⟩
 have hgo:drawGo E (ev E n) fr dd q TP=some (.nothing,v,st.sub .nil):=by
  unfold drawGo
  have:quietSo dd.so=true:=ho.1
  rw[this]
  simp only[cond_true]
  have ht:touchOf dd.so TP= .nothing:=(ho.2 TP hTP).1
  rw[ht]
  show drawGot .nothing ((stepC E (opC E o.type o.op) K0).run (ev E n) fr TP (st.sub .nil))=_
  rw[(ho.2 TP hTP).2 (ev E n) fr _ K0];rfl
 show(bif Nat.testBit dd.anc p then _ else(drawRun E all (ev E n) fr dd q).bind fun r=>bif Nat.beq r.2.2.next q.st.next&&isNilL r.2.2.log then(drawPut fr.nt dd q r).bind fun q'=>restAll E all (ev E n) fr p (planD E (befores all) rest (i+1)) q' else none)=_
 have:Nat.testBit dd.anc p=false:=hx
 rw[this,cond_false,runN hT hg hgo]
 show(bif Nat.beq st.next st.next&&true then _ else _)=_
 rw[Nat.beq_refl]
 show(drawPut fr.nt dd q (.nothing,v,st.sub .nil)).bind _=_
 rw[Fk (nt:=fr.nt) (d:=dd) (q:=q) (tch:= .nothing) (v:=v) (H:= .nil) (od:=od) hd hlt]
 exact h1
def RdW (KN:PN) (anc:Nat) (s2:St):Prop:=∀e∈KN.rl,Nat.testBit anc e.1=true∨e.2.1∉s2.log∨e.2.2 s2.next (s2.heap.get e.2.1)
theorem free_rd {anc b:Nat} {s2:St} (hjs:∀j∈js,Nat.testBit anc j=true∨∃e∈KN.rl,e.1=j) (hw:RdW KN anc s2) (hb:b∈s2.log):∀ {L:Looked},(∀p∈L,p.1∈js∨p.2.1= .nothing)→(∀p∈L,∀e∈KN.rl,p.1=e.1→p.2.1= .block e.2.1∧∀n o,e.2.2 n o→p.2.2 n o=true)→
 freeOf anc b s2.next (s2.heap.get b) L=true
 | [],_,_=>rfl
 |p::L,hL,hr=>by
  unfold freeOf
  have ih:=free_rd hjs hw hb (fun q hq=>hL q (Qg _ hq)) fun q hq=>hr q (Qg _ hq)
  cases ht:Nat.testBit anc p.1 with
  |true=>exact ih
  |false=>
   rw[cond_false]
   rcases hL p (Qh ..)with h1|h1
   ·rcases hjs _ h1 with h2|⟨e,he,h2⟩
    ·rw[ht]at h2;cases h2
    ·obtain⟨h3,h4⟩:=hr p (Qh ..) e he h2.symm
     rw[h3]
     show(bif Nat.beq b e.2.1 then _ else _)=_
     cases hq:Nat.beq b e.2.1 with
     |false=>exact ih
     |true=>
      have:=Qb hq
      subst this
      have h5:p.2.2 s2.next (s2.heap.get e.2.1)=true:=by
       rcases hw e he with h6|h6|h6
       ·rw[h2,ht]at h6;cases h6
       ·exact absurd hb h6
       ·exact h4 _ _ h6
      rw[h5,ih];rfl
   ·rw[h1]
    exact ih
theorem allAnc_of {anc:Nat} (h:(nl.all fun p=>Nat.testBit anc p.1)=true):∀ {news:News},(∀p∈news,p∈nl)→allAnc anc news=true
 | [],_=>rfl
 |p::news,hn=>by
  unfold allAnc
  rw[Qf]
  exact⟨List.all_eq_true.1 h p (hn p (Qh ..)),allAnc_of h fun q hq=>hn q (Qg _ hq)⟩
theorem RegN.actX (hcall:(∃F,opC E o.type o.op= .call F)∨∃F A,opC E o.type o.op= .callV F A) (hjs:∀j∈js,Nat.testBit (ancOf all i) j=true∨∃e∈KN.rl,e.1=j) (hnl:(nl.all fun p=>Nat.testBit (ancOf all i) p.1)=true) (hg:GuardOn all l o) (hd:o.dst=od) (hlt:dstOk fr.nt od=true)
 (h:∀T,Has (restr (tmpsOf o.op.operands.toList) l) T→
  (∃v s2,OpTo E o fr T (st.sub st.heap) v s2∧st.next≤s2.next∧(∀b∈s2.log,b<st.next)∧RdW KN (ancOf all i) s2∧∀nl2,NewsOf nl i st.next s2.log nl2→RegN E KN all rest (i+1) fr (putL od v l) (st.merged s2) (i::js) nl2 K)∨
  ∃v s2,(∃N,∀n,N≤n→∀k:KCl,(stepC E (opC E o.type o.op) k).run (ev E n) fr T (st.sub st.heap)= .one ⟨.panic v,fr,T,s2⟩)∧st.next≤s2.next∧(∀b∈s2.log,b<st.next)∧RdW KN (ancOf all i) s2∧
   KN.pan v (st.merged s2)∧RestN E all rest (i+1) i fr (putL od (.tuple []) l) (st.merged s2)):RegN E KN all (o::rest) i fr l st js nl K:=by
 intro T0 T news looked hT hnw hlk hrd
 let dd:DOp:=dop E all i o
 let q:DSt:=⟨T,st,news,looked⟩
 let TP:=pickT T (tmpsOf o.op.operands.toList) .nil
 have hanc:dd.anc=ancOf all i:=rfl
 have htch:∀T,touchOf dd.so T= .all:=fun T=>by
  show touchOf (opC E o.type o.op) T= .all
  rcases hcall with⟨F,h⟩|⟨F,A,h⟩<;>rw[h]<;>rfl
 have hqs:quietSo dd.so=true:=by
  show quietSo (opC E o.type o.op)=true
  rcases hcall with⟨F,h⟩|⟨F,A,h⟩<;>rw[h]<;>rfl
 have hH:subHeap (ancOf all i) news st.heap .all=st.heap:=hide_clear hnl hnw
 have hput:∀(v:AV) (s2:St),st.next≤s2.next→(∀b∈s2.log,b<st.next)→RdW KN (ancOf all i) s2→drawPut fr.nt dd q (.all,v,s2)=some ⟨putT od v T,st.merged s2,tagL i (tagL i news (newL st.next (s2.next-st.next))) s2.log,(i,.all,reOf dd q (.all,v,s2))::looked⟩:=by
  intro v s2 hnx hlog hw
  have hmay:∀L:List Nat,(∀b∈L,b<st.next∧b∈s2.log)→mayWrite dd.anc st.next s2.next s2.heap q L=true:=by
   intro L
   induction L with
   |nil=>intro _;rfl
   |cons b L ih=>
    intro hL
    unfold mayWrite
    have h1:Nat.blt b st.next=true:=Qd (hL b (Qh ..)).1
    have h2:hiddenB dd.anc b q.news=false:=DG (Dj hnl) hnw
    have h3:freeOf dd.anc b s2.next (s2.heap.get b) q.looked=true:=free_rd hjs hw (hL b (Qh ..)).2 hlk hrd.2.2
    rw[h1,h2,h3,ih fun c hc=>hL c (Qg _ hc)]
    rfl
  unfold drawPut
  have h1:Nat.ble q.st.next s2.next=true:=Qd hnx
  have h2:mayWrite dd.anc q.st.next s2.next s2.heap q s2.log=true:=hmay s2.log fun b hb=>⟨hlog b hb,hb⟩
  have h3:dd.o.dst=od:=hd
  simp only[h1,h2,h3,Bool.and_self,cond_true,putC_ok hlt,Qe]
  rfl
 rcases h _ (hT.restr (tmpsOf o.op.operands.toList))with⟨v,s2,⟨N,hN⟩,hnx,hlog,hw,h⟩|⟨v,s2,⟨N,hN⟩,hnx,hlog,hw,hpan,hrest⟩
 ·obtain⟨M,ex,l',T',s',hk,hr⟩:=h (tagL i (tagL i nl (newL st.next (s2.next-st.next))) s2.log) (newsOf_tag (n:=st.next) (lg:=s2.log)) T0 (putT od v T) (tagL i (tagL i news (newL st.next (s2.next-st.next))) s2.log) ((i,.all,reOf dd q (.all,v,s2))::looked) (hT.putL od v)
   (fun p hp=>tagL_mono (fun p hp=>tagL_mono hnw hp) hp) (fun p hp=>by
   rcases Qk.1 hp with rfl|hp
   ·exact .inl (Qh ..)
   ·exact(hlk p hp).imp (Qg _) id) hrd.cons
  refine⟨max N M,ex,l',T',s',hk,fun n hn=>?_⟩
  have hgo:drawGo E (ev E n) fr dd q TP=some (.all,v,s2):=by
   unfold drawGo
   rw[hqs]
   simp only[cond_true]
   rw[htch TP]
   show drawGot .all ((stepC E (opC E o.type o.op) K0).run (ev E n) fr TP (st.sub (subHeap dd.anc news st.heap .all)))=_
   rw[hanc,hH,hN n (by omega) K0];rfl
  exact Fj (runN hT hg hgo) (hput v s2 hnx hlog hw) (hr n (by omega))
 ·obtain⟨M,hM⟩:=hrest (putT od (.tuple []) T) (tagL i (tagL i news (newL st.next (s2.next-st.next))) s2.log) ((i,.all,reOf dd q (.all,.tuple [],s2))::looked) (hT.putL od _)
  refine⟨max N M,.panic v,l,clearT all T0,st.merged s2,⟨hpan,rfl⟩,fun n hn=>?_⟩
  have hstep:(stepC E (opC E o.type o.op) K0).run (ev E n) fr TP (st.sub (subHeap dd.anc news st.heap .all))= .one ⟨.panic v,fr,TP,s2⟩:=by
   rw[hanc,hH];exact hN n (by omega) K0
  have hgo:drawGo E (ev E n) fr dd q TP=none:=by
   unfold drawGo
   rw[hqs]
   simp only[cond_true]
   rw[htch TP]
   show drawGot .all ((stepC E (opC E o.type o.op) K0).run (ev E n) fr TP (st.sub (subHeap dd.anc news st.heap .all)))=_
   rw[hstep];rfl
  have hpg:panGo E (ev E n) fr dd q TP=some (v,s2):=by
   unfold panGo
   have hso:dd.so=opC E o.type o.op:=rfl
   rcases hcall with⟨F,hF⟩|⟨F,A,hF⟩
   ·rw[hso]
    rw[hF]at hstep⊢
    show panGot ((stepC E (.call F) K0).run (ev E n) fr TP (st.sub (subHeap dd.anc news st.heap .all)))=_
    rw[hstep];rfl
   ·rw[hso]
    rw[hF]at hstep⊢
    show panGot ((stepC E (.callV F A) K0).run (ev E n) fr TP (st.sub (subHeap dd.anc news st.heap .all)))=_
    rw[hstep];rfl
  have hdr:drawRun E all (ev E n) fr dd q=none:=by
   unfold drawRun
   rcases hg with hg|⟨g,hg,hw⟩
   ·have:dd.o.guard=none:=hg
    rw[this];exact hgo
   ·have:dd.o.guard=some g:=hg
    rw[this]
    show(wantedC all g T).bind _=_
    rw[hw T hT];exact hgo
  have hpr:panRun E all (ev E n) fr dd q=some (v,s2):=by
   unfold panRun
   rcases hg with hg|⟨g,hg,hw⟩
   ·have:dd.o.guard=none:=hg
    rw[this];exact hpg
   ·have:dd.o.guard=some g:=hg
    rw[this]
    show(wantedC all g T).bind _=_
    rw[hw T hT];exact hpg
  show(match drawRun E all (ev E n) fr dd q with
   |some r=>match drawPut fr.nt dd q r with
    |some q'=>drawRest E all (ev E n) fr T0 (planD E (befores all) rest (i+1)) q'
    |none=> .stuck
   |none=>panEnd E all (ev E n) fr T0 dd (planD E (befores all) rest (i+1)) q (panRun E all (ev E n) fr dd q))=_
  rw[hdr,hpr]
  show(bif allAnc dd.anc news then panOut fr (clearT all T0) v ((drawPut fr.nt dd q (.all,.tuple [],s2)).bind (restAll E all (ev E n) fr i (planD E (befores all) rest (i+1))))else .stuck)=_
  have hal:allAnc dd.anc news=true:=allAnc_of hnl hnw
  rw[hal,cond_true,hput (.tuple []) s2 hnx hlog hw]
  obtain⟨q',e1,e2⟩:=hM n (by omega)
  simp only[Qe]
  rw[e1]
  show Out.one ⟨_,_,_,q'.st⟩=_
  rw[e2]
theorem DK {c:Call} {f:Nat} {args:List AV} {R RP:AV→St→Prop} (hb:hasBody E f=true) (ho:o.op= .call c) (hc:c.callee= .value (.func f)) (ha:opndsL c.args.toList (restr (tmpsOf o.op.operands.toList) l)=some args)
 (h:RunsX E f args (st.sub st.heap) R RP) (hjs:∀j∈js,Nat.testBit (ancOf all i) j=true∨∃e∈KN.rl,e.1=j) (hnl:(nl.all fun p=>Nat.testBit (ancOf all i) p.1)=true) (hg:GuardOn all l o) (hd:o.dst=od) (hlt:dstOk fr.nt od=true)
 (hk:∀v s2,R v s2→st.next≤s2.next∧(∀b∈s2.log,b<st.next)∧RdW KN (ancOf all i) s2∧∀nl2,NewsOf nl i st.next s2.log nl2→RegN E KN all rest (i+1) fr (putL od v l) (st.merged s2) (i::js) nl2 K)
 (hp:∀v s2,RP v s2→st.next≤s2.next∧(∀b∈s2.log,b<st.next)∧RdW KN (ancOf all i) s2∧KN.pan v (st.merged s2)∧RestN E all rest (i+1) i fr (putL od (.tuple []) l) (st.merged s2)):RegN E KN all (o::rest) i fr l st js nl K:=by
 have hop:opC E o.type o.op= .call (fun T _=>(opndsC E c.args.toList T).bind fun args=>some (f,args)):=by
  rw[ho]
  show callC E o.type c=_
  unfold callC
  rw[hc]
  simp only[hb,cond_true]
 obtain⟨N,cr,hN,hm⟩:=h
 refine RegN.actX (.inl ⟨_,hop⟩) hjs hnl hg hd hlt fun T hT=>?_
 have key:∀n,N≤n→∀k:KCl,(stepC E (opC E o.type o.op) k).run (ev E n) fr T (st.sub st.heap)=crOut fr T (st.sub st.heap) (k.run (ev E n) fr T) (some cr):=fun n hn k=>by
  rw[hop]
  show crOut fr T _ (k.run (ev E n) fr T) (((opndsC E c.args.toList T).bind fun args=>some (f,args)).bind fun p=>callF E (ev E n) p.1 p.2 (st.sub st.heap))=_
  rw[B8 hT ha]
  simp only[Qe]
  rw[hN n hn]
 cases cr with
 |same v=>exact .inl ⟨v,_,⟨N,key⟩,hk v _ hm⟩
 |val v s'=>exact .inl ⟨v,s',⟨N,key⟩,hk v _ hm⟩
 |pan v s'=>exact .inr ⟨v,s',⟨N,key⟩,hp v _ hm⟩
variable {Q : Ex → Fr → Sl → St → Prop} {s : St}
theorem EvtL.putOff {k:Nat} {ops:Array Oper} {o1 o2:Oper} {c:Call} {t d f:Nat} {fv:AV} {first captured args:List AV} (hops:ops.toList=[o1,o2]) (h1:OpQ E o1 l fv) (hg1:o1.guard=none) (hd1:o1.dst=some d) (hlt:Nat.blt d fr.nt=true)
 (ho:o2.op= .defer c) (hc:c.callee= .value (.tmp t)) (hl:look t ((d,fv)::l)=some (.func (.func f) first captured)) (ha:opndsL c.args.toList ((d,fv)::l)=some args) (hg2:o2.guard=none) (hd2:o2.dst=none) (hr:fr.round=none)
 (h:Q .normal {fr with defers:= {target:= .fn (.func f) captured,args:=first++args}::fr.defers} ((d,fv)::l) s):EvtL E (.region k ops false) fr l s Q:=by
 intro T hT
 refine⟨0,.normal,_,_,T.set d (some fv),s,h,hT.put d fv,fun n _=>?_⟩
 show(runC E ops.toList ops.toList).run (ev E n) fr T s=_
 rw[hops]
 show(oneC E [o1,o2] o1 (thenK o1.dst (runC E [o1,o2] [o2]))).run (ev E n) fr T s=_
 unfold oneC guarded
 rw[hg1]
 simp only
 rw[(h1.2 T hT).2 (ev E n) fr s,Dz _ _ (by rw[hd1];exact hlt),hd1]
 show(oneC E [o1,o2] o2 (thenK o2.dst (runC E [o1,o2] []))).run (ev E n) fr (T.set d (some fv)) s=_
 unfold oneC guarded
 rw[hg2,hd2,ho]
 have hT2:=hT.put d fv
 show(stepC E (deferC E c) _).run (ev E n) fr (T.set d (some fv)) s=_
 have hdc:deferC E c= .defer fun T=>(opnd E (.tmp t) T).bind fun f=>(opndsC E c.args.toList T).bind fun args=>deferV args f:=by unfold deferC;rw[hc]
 rw[hdc]
 show deferOut fr (fun fr' v=>(thenK none (runC E [o1,o2] [])).run (ev E n) fr' (T.set d (some fv)) v s) ((opnd E (.tmp t) (T.set d (some fv))).bind fun f=>(opndsC E c.args.toList (T.set d (some fv))).bind fun args=>deferV args f)=_
 have hft:opnd E (.tmp t) (T.set d (some fv))=some (.func (.func f) first captured):=hT2 t _ hl
 rw[hft,B8 hT2 ha]
 simp only[Qe,deferV,isYield,cond_false,deferOut,hr]
 rfl
theorem EvtL.seqPutOff {k:Nat} {ops:Array Oper} {b:Code} {o1 o2:Oper} {c:Call} {t d f:Nat} {fv:AV} {first captured args:List AV} (hops:ops.toList=[o1,o2]) (h1:OpQ E o1 l fv) (hg1:o1.guard=none) (hd1:o1.dst=some d) (hlt:Nat.blt d fr.nt=true)
 (ho:o2.op= .defer c) (hc:c.callee= .value (.tmp t)) (hl:look t ((d,fv)::l)=some (.func (.func f) first captured)) (ha:opndsL c.args.toList ((d,fv)::l)=some args) (hg2:o2.guard=none) (hd2:o2.dst=none) (hr:fr.round=none)
 (h:EvtL E b {fr with defers:= {target:= .fn (.func f) captured,args:=first++args}::fr.defers} ((d,fv)::l) s Q):EvtL E (.seq (.region k ops false) b) fr l s Q:=
 Ab (EvtL.putOff hops h1 hg1 hd1 hlt ho hc hl ha hg2 hd2 hr h)
theorem EvtL.recover {k:Nat} {ops:Array Oper} {o1:Oper} {d:Nat} {v:AV} {pn:Option AV} (hops:ops.toList=[o1]) (hop:opC E o1.type o1.op= .recover) (hg1:o1.guard=none) (hd1:o1.dst=some d) (hlt:Nat.blt d fr.nt=true) (hr:fr.round=none)
 (hp:fr.pan=pn) (hv:v=match pn with|some v=>v|none=> .niliface) (h:Q .normal {fr with pan:=none} ((d,v)::l) s):EvtL E (.region k ops false) fr l s Q:=by
 intro T hT
 refine⟨0,.normal,_,_,T.set d (some v),s,h,hT.put d v,fun n _=>?_⟩
 show(runC E ops.toList ops.toList).run (ev E n) fr T s=_
 rw[hops]
 show(oneC E [o1] o1 (thenK o1.dst (runC E [o1] []))).run (ev E n) fr T s=_
 unfold oneC guarded
 rw[hg1,hop]
 obtain⟨nt,defers,pan,round⟩:=fr
 simp only at hr hp hlt
 subst hr hp
 cases pan with
 |some w=>
  show(thenK o1.dst (runC E [o1] [])).run (ev E n) {nt,defers,pan:=none,round:=none} T w s=_
  rw[Dz _ _ (by rw[hd1];exact hlt),hd1,hv]
  rfl
 |none=>
  show(thenK o1.dst (runC E [o1] [])).run (ev E n) {nt,defers,pan:=none,round:=none} T .niliface s=_
  rw[Dz _ _ (by rw[hd1];exact hlt),hd1,hv]
  rfl
theorem EvtL.seqRecover {k:Nat} {ops:Array Oper} {b:Code} {o1:Oper} {d:Nat} {v:AV} {pn:Option AV} (hops:ops.toList=[o1]) (hop:opC E o1.type o1.op= .recover) (hg1:o1.guard=none) (hd1:o1.dst=some d) (hlt:Nat.blt d fr.nt=true) (hr:fr.round=none)
 (hp:fr.pan=pn) (hv:v=match pn with|some v=>v|none=> .niliface) (h:EvtL E b {fr with pan:=none} ((d,v)::l) s Q):EvtL E (.seq (.region k ops false) b) fr l s Q:=
 Ab (EvtL.recover hops hop hg1 hd1 hlt hr hp hv h)
def PutOffQ (E:Env) (f:FuncId) (rs:List ResultVar) (s0:St) (R RP:AV→St→Prop) (ex:Ex) (fr:Fr) (l:Sl) (st:St):Prop:=
 ∃m g captured args gn cb,modeOf ex=some m∧fr.defers=[{target:= .fn (.func g) captured,args}]∧E.fns.get g=some gn∧gn.body=some cb∧gn.results.toList=[]∧
  EvtL E cb (frame gn.ntmps (args++captured) m) (argsL 0 (args++captured) []) st fun ex2 fr2 _ st2=>(ex2= .normal∨ex2= .ret)∧fr2.defers=[]∧match(bif recovered m fr2.pan then none else m)with
   |none=>∃vs,resultsL E st2 l rs=some vs∧∃cr,leave E f s0 (oneA vs) st2=some cr∧(match cr with
    | .same v=>R v s0
    | .val v s'=>R v s'
    | .pan _ _=>False)
   |some v=>RP v (s0.back st2)
theorem RunsX.putOff {f:FuncId} {fn:Func} {c:Code} {args:List AV} {R RP:AV→St→Prop} {rs:List ResultVar} {fr0:Fr} {l0:Sl} (hm:E.memo f args=none) (hf:E.fns.get f=some fn) (hc:fn.body=some c) (hr:fn.results.toList=rs)
 (hfr:frame fn.ntmps args none=fr0) (hl:argsL 0 args []=l0) (h:EvtL E c fr0 l0 s.enter (PutOffQ E f rs s R RP)):RunsX E f args s R RP:=by
 subst hfr hl hr
 obtain⟨N,ex,fr',l',T',s',⟨m,g,captured,as,gn,cb,hmo,hd,hgn,hcb,hgr,hbody⟩,hT',hr'⟩:=h _ (EJ args 0 (Has.nil .nil))
 obtain⟨M,ex2,fr2,l2,T2,s2,⟨hex2,hd2,hq⟩,_,hr2⟩:=hbody _ (EJ (as++captured) 0 (Has.nil .nil))
 have hun:∀n,M≤n→unwind E (ev E (n+1)) fr'.defers m s'=some (bif recovered m fr2.pan then none else m,s2):=by
  intro n hn
  rw[hd]
  show(unwind1 E (ev E (n+1)) m s' _).bind _=_
  unfold unwind1
  simp only
  unfold deferF
  rw[hgn]
  simp only[Qe,hcb,hgr]
  have he:ev E (n+1) cb (frame gn.ntmps (as++captured) m) (putArgs 0 (as++captured) .nil) s'= .one ⟨ex2,fr2,T2,s2⟩:=by rw[ev_succ];exact hr2 n hn
  rw[he]
  have:deferEnd m (.one ⟨ex2,fr2,T2,s2⟩)=some (recovered m fr2.pan,s2):=by rcases hex2 with rfl|rfl<;>simp only[deferEnd,hd2]
  rw[this]
  rfl
 have key:∀n,max N M+2≤n→callF E (ev E n) f args s=endWith E f fn s T' (bif recovered m fr2.pan then none else m) s2:=by
  intro n hn
  obtain⟨k,rfl⟩:∃k,n=k+2:=⟨n-2,by omega⟩
  unfold callF
  rw[hm]
  simp only[hf,hc,Qe]
  rw[ev_succ,hr' (k+1) (by omega)]
  show endF E (ev E (k+1+1)) f fn s ⟨ex,fr',T',s'⟩=_
  unfold endF
  simp only[hmo,Qe]
  rw[hun (k+1) (by omega)]
  rfl
 cases hb:(bif recovered m fr2.pan then none else m)with
 |none=>
  rw[hb]at hq
  obtain⟨vs,hvs,cr,hlv,hR⟩:=hq
  refine RunsV.toX ⟨max N M+2,cr,fun n hn=>?_,hR⟩
  rw[key n hn,hb]
  simp only[endWith,D9 hT' hvs,Qe,hlv]
 |some v=>
  rw[hb]at hq
  exact⟨max N M+2,.pan v (s.back s2),fun n hn=>by rw[key n hn,hb];rfl,hq⟩
end
noncomputable def envF (P:Program) (nt nf:Nat) (F:FuncId→Nat) (K:FuncId→List AV→Option AV) (gl:Glob):Env:= {envK P nt nf 0 K with glob:=gl,frz:=F}
section
variable {P : Program} {nt nf : Nat} {F : FuncId → Nat} {K : FuncId → List AV → Option AV} {gl : Glob}
theorem envF_ok (h:ProgOk P nt nf):EnvOk (envF P nt nf F K gl) P:=by
 have:=envOf_ok h 0 []
 exact⟨this.ty,this.fn,this.flat,this.lone⟩
theorem envF_ext (h:ProgOk P nt nf):ExtOk (envF P nt nf F K gl) P:=
 ext_ok (envF_ok h) fun f fn hf=>by
  have:P.funcs.toList[f]?=some fn:=by rw[←Fi nf P.funcs.toList f (by simpa using h.funcs)];exact hf
  exact(List.all_eq_true.1 h.outer) fn (List.mem_of_getElem? this)
theorem envF_memo (hK:KnownGs P gl K):MemoOk (envF P nt nf F K gl) P:=
 fun f args v h C S w xs c cs hg hv hS=>hK f args v h C S w xs c cs hg hv hS
theorem knownF_of (hp:ProgOk P nt nf) (hgl:∀g cs,gl g=some cs→cs.all (closedV 40)=true) (hK:KnownGs P gl K) {f:FuncId} {args:List AV} {v:AV} (h:CallTo (envF P nt nf F K gl) f args S0 v)
 (ha:args.all (closedV 40)=true) (hv:closedV 40 v=true):KnownG P gl f args v:=by
 intro C S w xs c cs hg hvs hS
 obtain⟨N,h⟩:=h
 have hx:ExtOk (envF P nt nf F K gl) P:=envF_ext hp
 have he:EnvOk (envF P nt nf F K gl) P:=envF_ok hp
 have hcall:=call_ok he hx (draw_ok he hx) (envF_memo hK) (fun _ ev _=>merge_ok ev) N
 have hgb:GlobR (envF P nt nf F K gl) C.bare:=by
  intro g cs' hgl'
  obtain⟨ms,h1,h2,h3⟩:=hg g cs' hgl'
  exact⟨ms,h1,BN 40 h2 (hgl g cs' hgl'),h3⟩
 have:=hcall f args (.same v) C.bare S0 w xs c cs (h N (Qj _)) hgb (BN 40 hvs ha) (s0_st C hS)
 obtain⟨C1,x,w',hs,t,hvx⟩:=this
 have eb:Ext C1.bare (C.withM C1):=⟨fun _ x=>x.elim,fun _ x=>x.elim,fun _ _ h=>h,fun _ _ x=>x.elim,fun _ _ x=>x.elim,fun _ h=>h⟩
 exact⟨_,x,w',hs,frame_s0 hS t,(EE 40 hvx hv).mono eb⟩
theorem AY {α:Type} {f:FuncId} {enc:α→List AV} {res:α→AV} (hp:ProgOk P nt nf) (hgl:∀g cs,gl g=some cs→cs.all (closedV 40)=true) (hK:KnownGs P gl K) (h:∀a,CallTo (envF P nt nf F K gl) f (enc a) S0 (res a))
 (ha:∀a,(enc a).all (closedV 40)=true) (hv:∀a,closedV 40 (res a)=true):KnownGs P gl (addC K f enc res):=
 DB hK fun a=>knownF_of hp hgl hK (h a) (ha a) (hv a)
end
mutual
inductive Weak:AV→AV→Prop where
 |refl (v:AV):Weak v v
 |nil (k:Nat):Weak .nilslice (.islice [] 0 k true)
 |agg {a b:List AV} (h:WeakL a b):Weak (.agg a) (.agg b)
 |islice {a b:List AV} {n k:Nat} (h:WeakL a b):Weak (.islice a n k true) (.islice b n k true)
inductive WeakL:List AV→List AV→Prop where
 |nil:WeakL [] []
 |cons {a b:AV} {l r:List AV} (h:Weak a b) (t:WeakL l r):WeakL (a::l) (b::r)
end
theorem WeakL.refl:∀l:List AV,WeakL l l
 | []=> .nil
 |a::l=> .cons (.refl a) (WeakL.refl l)
theorem WeakL.app:∀ {a b c d:List AV},WeakL a b→WeakL c d→WeakL (a++c) (b++d)
 |_,_,_,_,.nil,h=>h
 |_,_,_,_,.cons h t,h2=> .cons h (t.app h2)
theorem Weak.cell {a b:AV} (h:Weak a b):b.isCell=a.isCell:=by cases h<;>rfl
theorem WeakL.cells:∀ {a b:List AV},WeakL a b→Cells a→Cells b
 |_,_,.nil,_=>fun _ h=>by cases h
 |_,_,.cons h t,hc=>fun v hv=>by
  rcases Qk.1 hv with rfl|hv
  ·rw[h.cell];exact hc _ (Qh ..)
  ·exact t.cells (fun u hu=>hc u (Qg _ hu)) v hv
theorem WeakL.len:∀ {a b:List AV},WeakL a b→b.length=a.length
 |_,_,.nil=>rfl
 |_,_,.cons _ t=>by rw[List.length_cons,List.length_cons,t.len]
mutual
theorem Weak.vr:∀ {a b:AV},Weak a b→∀ {C:Cx} {x:Value},VR C a x→VR C b x
 |_,_,.refl _,_,_,hx=>hx
 |_,_,.nil k,_,_,hx=>by
  cases hx with
  |nilslice a h=>exact .islice0 a (Nat.zero_mul _) (Qj _)
 |_,_,.agg h,_,_,hx=>by
  cases hx with
  |agg hv hcs=>exact .agg (h.vrs hv) (h.cells hcs)
 |_,_,.islice h,_,_,hx=>by
  cases hx with
  |islice0 a h1 h2=>cases h;exact .islice0 a h1 h2
  |islice hl hm ha hv hc hcs hlc=>exact .islice (by rw[h.len];exact hl) hm ha (h.vrs hv) (fun e=>h.vrs (hc e)) (h.cells hcs) hlc
theorem WeakL.vrs:∀ {a b:List AV},WeakL a b→∀ {C:Cx} {x:List Value},VRs C a x→VRs C b x
 |_,_,.nil,_,_,hx=>hx
 |_,_,.cons h t,_,_,hx=>by
  cases hx with
  |cons h1 h2=>exact .cons (h.vr h1) (t.vrs h2)
end
theorem KnownG.weak {P:Program} {gl:Glob} {f:FuncId} {args args':List AV} {v:AV} (h:KnownG P gl f args' v) (hw:WeakL args args'):KnownG P gl f args v:=
 fun C S w xs c cs hg hvs hS=>h C S w xs c cs hg (hw.vrs hvs) hS
theorem countV_eq (c:UInt8) (w:List UInt8):countV (.str w) (.int .u8 (c.toNat:Nat))=some (.int .i64 (cntA c.toNat w:Nat)):=by
 have hc:Nat.blt c.toNat 256=true:=Qd (by have:=c.toNat_lt;omega)
 show(bif Nat.blt c.toNat 256 then _ else _)=_
 rw[hc];rfl
theorem cnt_le (c:Nat):∀w:List UInt8,cntA c w≤w.length
 | []=>Qj _
 |b::w=>by
  have ih:=cnt_le c w
  show(bif Nat.beq b.toNat c then cntA c w+1 else cntA c w)≤w.length+1
  cases Nat.beq b.toNat c
  ·show cntA c w≤_;omega
  ·show cntA c w+1≤_;omega
theorem frz_strs {s:St} {m n:Nat}:∀(l:List (List UInt8)) (ks:List Nat),frzV.many (frzV s m (n+1)) (l.map .str) ks=some (l.map .str,ks)
 | [],_=>rfl
 |a::l,ks=>by
  show((frzV.many (frzV s m (n+1)) (l.map .str) ks).bind _)=_
  rw[frz_strs l ks];rfl
theorem str_closed:∀l:List (List UInt8),(l.map AV.str).all (closedV 40)=true
 | []=>rfl
 |_::l=>str_closed l
section
variable {E : Env} {l : Sl} {o : Oper} {c : Call} {x y : Operand} {k : IntKind} {a b : Int}
theorem OpQ.minL (ho:o.op= .call c) (hc:c.callee= .builtin .min) (ha:c.args.toList=[x,y]) (hx:opndL x l=some (.int k a)) (hy:opndL y l=some (.int k b)) (h:a≤b):OpQ E o l (.int k a):=
 AO (f:=fun T=>(opnd E x T).bind fun a=>(opndsC E [y] T).bind fun r=>foldV min2A r a) (by
  rw[ho]
  show callC E o.type c=_
  unfold callC
  rw[hc]
  show builtinC E o.type .min c.argTypes.toList c.args.toList=_
  rw[ha];rfl) fun T hT=>by
  rw[Au hT hx,opnds_cons (Au hT hy) opnds_nil]
  show some (AV.int k (if b<a then b else a))=_
  rw[if_neg (by omega)]
end
theorem frz_slice {s : St} {m j b n k : Nat} {cap : Option Nat} {cs cs' : List AV} {ks ks' : List Nat} {e : TypeId} {part : Bool} (hb : m ≤ b) (hg : s.heap.get b = some (.cells cs e part)) (hl : cs.length = n * k)
    (hm : frzV.many (frzV s m j) cs ks = some (cs', ks')) : frzV s m (j + 1) (.slice b 0 n k cap) ks = some (.islice cs' n k (cs'.all (closedV 40)), b :: ks') := by
  have hbl : Nat.blt b m = false := by
    cases h : Nat.blt b m with
    | false => rfl
    | true => have h2 : b < m := Qc h
              omega
  have hc : cut cs 0 (n * k) = some cs := by rw [cut_eq (by omega), List.drop_zero, ← hl, List.take_length]
  show (bif Nat.blt b m then _ else (cellsOf? (s.heap.get b)).bind fun cs => (cut cs 0 (n * k)).bind fun l => (frzV.many (frzV s m j) l ks).bind fun p => some (AV.islice p.1 n k (p.1.all (closedV 40)), b :: p.2)) = _
  rw [hbl, cond_false, hg]
  show ((cut cs 0 (n * k)).bind _) = _
  rw [hc]
  show ((frzV.many (frzV s m j) cs ks).bind _) = _
  rw [hm]; rfl
def PureX (E:Env) (f:FuncId) (args:List AV) (s:St) (R RP:AV→Prop):Prop:=
 ∃N cr,(∀n,N≤n→callF E (ev E n) f args s=some cr)∧match cr with
  | .same v=>R v
  | .val _ _=>False
  | .pan v s'=>RP v∧s'=s
section
variable {E : Env} {f : FuncId} {args : List AV} {s : St} {R RP : AV → Prop}
theorem PureX.toX (h:PureX E f args s R RP):RunsX E f args s (fun v s'=>R v∧s'=s) fun v s'=>RP v∧s'=s:=by
 obtain⟨N,cr,h1,h2⟩:=h
 refine⟨N,cr,h1,?_⟩
 cases cr with
 |same v=>exact⟨h2,rfl⟩
 |val v s'=>exact h2.elim
 |pan v s'=>exact h2
theorem PureX.value (h:PureX E f args s R RP) {v:AV} (hR:∀u,R u→u=v) (hP:∀u,¬RP u):CallTo E f args s v:=by
 obtain⟨N,cr,h1,h2⟩:=h
 cases cr with
 |same u=>obtain rfl:=hR u h2;exact⟨N,h1⟩
 |val u s'=>exact h2.elim
 |pan u s'=>exact(hP u h2.1).elim
theorem PureX.pan (h:PureX E f args s R RP) {v:AV} (hR:∀u,¬R u) (hP:∀u,RP u→u=v) {R' RP':AV→St→Prop} (hp:RP' v s):RunsX E f args s R' RP':=
 h.toX.mono (fun u s' h=>(hR u h.1).elim) fun u s' ⟨h1,h2⟩=>by rw[hP u h1,h2];exact hp
theorem PureX.gen {fn:Func} {c:Code} {fr0:Fr} {l0:Sl} {rs:List ResultVar} (hm:E.memo f args=none) (hf:E.fns.get f=some fn) (hc:fn.body=some c) (hr:fn.results.toList=rs)
 (hfr:frame fn.ntmps args none=fr0) (hl:argsL 0 args []=l0) (h:EvtL E c fr0 l0 s.enter fun ex fr l st=>match ex with
  | .panic v=>fr.defers=[]∧s.back st=s∧RP v
  |ex=>(ex= .ret∨ex= .normal)∧fr.defers=[]∧st.log=[]∧∃vs,resultsL E st l rs=some vs∧plainV (oneA vs)=true∧R (oneA vs)):PureX E f args s R RP:=by
 subst hfr hl hr
 obtain⟨N,ex,fr',l',T',s',hq,hT',hr'⟩:=h _ (EJ args 0 (Has.nil .nil))
 have key:∀ {m:Option AV} {cr:CR},modeOf ex=some m→fr'.defers=[]→endWith E f fn s T' m s'=some cr→∀n,N+1≤n→callF E (ev E n) f args s=some cr:=by
  intro m cr hmo hu he n hn
  obtain⟨k,rfl⟩:∃k,n=k+1:=⟨n-1,by omega⟩
  unfold callF
  rw[hm]
  simp only[hf,hc,Qe]
  rw[ev_succ,hr' k (by omega)]
  show endF E (ev E (k+1)) f fn s ⟨ex,fr',T',s'⟩=_
  unfold endF
  simp only[hmo,Qe,hu,unwind,he]
 have val:((ex= .ret∨ex= .normal)∧fr'.defers=[]∧s'.log=[]∧∃vs,resultsL E s' l' fn.results.toList=some vs∧plainV (oneA vs)=true∧R (oneA vs))→PureX E f args s R RP:=fun⟨hex,hd,hl,vs,hvs,hpl,hR⟩=>
  ⟨N+1,.same (oneA vs),key (m:=none) (by rcases hex with h|h<;>rw[h]<;>rfl) hd (by simp only[endWith,D9 hT' hvs,Qe,leave_plain hpl hl]),hR⟩
 cases ex with
 |panic v=>
  obtain⟨hd,hb,hp⟩:=hq
  exact⟨N+1,.pan v (s.back s'),key U hd U,hp,hb⟩
 |normal=>exact val hq
 |ret=>exact val hq
 |exit i=>exact val hq
end
theorem EvtL.cutX {E:Env} {fr:Fr} {l:Sl} {s:St} {Q:Ex→Fr→Sl→St→Prop} {a b:Code} (l2:Sl) (s2:St) (G:Prop) (h1:EvtL E a fr l s fun ex fr' l' s'=>match ex with
 | .normal=>fr'=fr∧s'=s2∧G∧∀p∈l2,look p.1 l'=some p.2
 |ex=>Q ex fr' l' s') (h2:G→EvtL E b fr l2 s2 Q):EvtL E (.seq a b) fr l s Q:=
 Ab (h1.mono fun ex fr' l' s' h=>by
  cases ex with
  |normal=>
   obtain⟨e2,e3,g,e4⟩:=h
   subst e2 e3
   exact EvtL.sub (h2 g) e4
  |_=>exact h)
theorem Bo {E:Env} {KP:AV→Sl→St→Prop} {all ops:List Oper} {fr:Fr} {l:Sl} {s:St} {K:Sl→St→Prop} {k:Nat} {b:Bool} (hl:look k l=some (.bool b)) (h1:b=true→RegL E KP all ops fr ((k,.bool true)::l) s K) (h0:b=false→RegL E KP all ops fr ((k,.bool false)::l) s K):RegL E KP all ops fr l s K:=by
 have key:∀ {T:Tr AV} {v:AV},Has l T→look k l=some v→Has ((k,v)::l) T:=by
  intro T v hT hv j u hj
  unfold look at hj
  cases hb:Nat.beq j k with
  |true=>
   rw[hb]at hj
   have:=Qb hb
   subst this
   cases hj
   exact hT _ _ hv
  |false=>rw[hb]at hj;exact hT _ _ hj
 intro T hT
 cases b with
 |true=>exact h1 rfl T (key hT hl)
 |false=>exact h0 rfl T (key hT hl)
theorem OpQ.subB {E:Env} {l:Sl} {o:Oper} {t yt:TypeId} {x y:Operand} {a b:Nat} (ho:o.op= .binOp .sub t x y yt) (hu:und E t=some (.int .u8)) (hx:opndL x l=some (.int .u8 (a:Nat))) (hy:opndL y l=some (.int .u8 (b:Nat))) (h:b≤a∧a<256):OpQ E o l (.int .u8 ((a-b:Nat):Int)):=
 OpQ.int2 ho hu rfl hx hy (by
  show some (wrapI .u8 _)=_
  unfold wrapI
  rw[←Int.ofNat_sub h.1,Go.IntWalk.u8_in _ ⟨by omega,by omega⟩])
section
variable {E : Env} {fr : Fr} {l : Sl} {st : St} {o : Oper} {all rest : List Oper} {i : Nat} {js : List Nat} {nl : News} {K : Sl → St → Prop} {od : Option Nat}
theorem Grown.news {s:St} {e:TypeId} {sz n m:Nat} {v:AV} {cs:List AV} (h:Grown s e sz v cs n) (ho:ownB m v=true):∀c,ownB c v=true→c=m:=by
 intro c hc
 rcases h with⟨rfl,_,_⟩|⟨b,rfl,_⟩
 ·cases hc
 ·have e1:b=c:=Qb hc
  have e2:b=m:=Qb ho
  omega
theorem RegL.growG {KP:AV→Sl→St→Prop} {c:Call} {t e:TypeId} {ts:List TypeId} {x y:Operand} {sz by_ n d:Nat} {z v:AV} {cs new:List AV} (hgr:Grown st e sz v cs n) (hnew:new.length=sz) (hsz0:0<sz) (hs1:small 1 by_=true) (hsm:small (n+1) by_=true)
 (ho:o.op= .call c) (hc:c.callee= .builtin .append) (ht:c.argTypes.toList=t::ts) (ha:c.args.toList=[x,y])
 (hu:und E t=some (.slice e)) (hsz:sizeOf E e=some sz) (hby:bytesOf E e=some by_) (hz:zeroOf E e=some z) (hk:(!(Nat.beq (len' z.cells) sz)||Nat.beq sz 0|| !(knownT E ts.head?))=false) (h0:isZeros E ts.head?=false)
 (hx:opndL x l=some v) (hy:opndL y l=some (.slice st.next 0 1 sz (some 1))) (hg:o.guard=none) (hd:o.dst=some d) (hlt:Nat.blt d fr.nt=true)
 (h:∀v2 st2,Grown st2 e sz v2 (cs++new) (n+1)→(∀c,ownB c v2=true→st.next≤c)→Chg st st2 (fun c=>ownB c v=true)→(st.bound≤st.next→Loggd st st2)→
  RegL E KP all rest fr ((d,v2)::l) st2 K):RegL E KP all (o::rest) fr l (st.alloc (.cells new e false)) K:=by
 have hG:Grown (st.alloc (.cells new e false)) e sz v cs n:=hgr.keep (Nat.le_succ _) fun c hc=>Bw (hgr.own hc)
 obtain⟨v2,s2,h1,h2,h3,h4,h5,h6,h7⟩:=hG.append (by_:=by_) hnew hsz0 hs1 hsm
 have h4':s2.next=st.next+1+1:=h4
 refine RegL.op (OpL.append ho hc ht ha hu hsz hby hz hk h0 hx hy (appended_new (e:=e) (part:=false) Dg hnew) h1) hg hd hlt (h v2 s2 h2 (fun c hc=>?_)
  ⟨by omega,h5,h6,fun c hc ho=>(h7 c (Nat.lt_succ_of_lt hc) (by simpa using ho)).trans (Bw hc)⟩ fun hb=>(Loggd.alloc hb).trans (appendTo_lg (by show st.bound≤st.next+1;omega) h1))
 have:=h2.news h3 c hc
 have:(st.alloc (.cells new e false)).next=st.next+1:=rfl
 omega
theorem DJ {KN:PN} {c:Call} {t e:TypeId} {ts:List TypeId} {x y:Operand} {sz by_ n:Nat} {z v:AV} {cs new:List AV} (hgr:Grown st e sz v cs n) (hbn:st.bound≤st.next) (hnew:new.length=sz) (hsz0:0<sz) (hs1:small 1 by_=true) (hsm:small (n+1) by_=true)
 (ho:o.op= .call c) (hc:c.callee= .builtin .append) (ht:c.argTypes.toList=t::ts) (ha:c.args.toList=[x,y])
 (hu:und E t=some (.slice e)) (hsz:sizeOf E e=some sz) (hby:bytesOf E e=some by_) (hz:zeroOf E e=some z) (hk:(!(Nat.beq (len' z.cells) sz)||Nat.beq sz 0|| !(knownT E ts.head?))=false) (h0:isZeros E ts.head?=false)
 (hx:opndL x (restr (tmpsOf o.op.operands.toList) l)=some v) (hy:opndL y (restr (tmpsOf o.op.operands.toList) l)=some (.slice st.next 0 1 sz (some 1)))
 (hjs:seenB (ancOf all i) js=true) (hnl:(nl.all fun p=>Nat.testBit (ancOf all i) p.1)=true) (hg:GuardOn all l o) (hd:o.dst=od) (hlt:dstOk fr.nt od=true)
 (h:∀v2 st2 nl2,Grown st2 e sz v2 (cs++new) (n+1)→(∀c,ownB c v2=true→st.next≤c)→Chg st st2 (fun c=>ownB c v=true)→Loggd st st2→(∀b,b<st.next→ownB b v=false→∀a,clearB a b nl=true→clearB a b nl2=true)→
  RegN E KN all rest (i+1) fr (putL od v2 l) st2 (i::js) nl2 K):RegN E KN all (o::rest) i fr l (st.alloc (.cells new e false)) js nl K:=by
 let sA:=st.alloc (.cells new e false)
 have hG:Grown (sA.sub sA.heap) e sz v cs n:=hgr.keep (Nat.le_succ _) fun c hc=>Bw (hgr.own hc)
 obtain⟨v2,s2,h1,h2,h3,h4,h5,h6,h7⟩:=hG.append (by_:=by_) hnew hsz0 hs1 hsm
 have e1:(sA.sub sA.heap).next=st.next+1:=rfl
 have e2:(sA.sub sA.heap).bound=st.next+1:=rfl
 have e3:sA.next=st.next+1:=rfl
 have e4:(st.alloc (.cells new e false)).next=st.next+1:=rfl
 have hlg:Loggd (sA.sub sA.heap) s2:=appendTo_lg (by omega) h1
 have hch:Chg (sA.sub sA.heap) s2 (fun c=>ownB c v=true):=⟨by omega,h5,h6,fun c hc ho=>h7 c (by omega) (by simpa using ho)⟩
 have hm:=hch.merged
 have hmg:=Loggd.heapM (st:=sA) (by omega) hlg rfl
 have hmn:(sA.merged s2).next=s2.next:=rfl
 refine RegN.append ho hc ht ha hu hsz hby hz hk h0 hx hy (appended_new (e:=e) (part:=false) Dg hnew) h1 (by omega) (fun b hb=>⟨?_,Dj hnl⟩) hjs hnl hg hd hlt (h v2 (sA.merged s2) _ (h2.keep (Nat.le_of_eq hmn.symm) fun c hc=>hmg c (h2.own hc)) (fun c hc=>by have:=h2.news h3 c hc;omega)
  ⟨by omega,hm.bound,fun c hc=>hm.log c hc,fun c hc ho=>(hm.heap c (by omega) ho).trans (Bw hc)⟩ ((Loggd.alloc hbn).trans (Loggd.region (by omega) hlg (by show st.bound≤st.next+1;omega))) fun b hb ho a ha=>?_)
 ·rcases h6 b hb with h|⟨h,_⟩
  ·cases h
  ·omega
 ·refine NewsOf.clear (newsOf_tag (n:=sA.next) (lg:=s2.log)) ha (by omega) fun hb2=>?_
  rcases h6 b hb2 with h|⟨_,h⟩
  ·cases h
  ·rw[h]at ho;cases ho
end
theorem leave_two {E : Env} {f : FuncId} {v w : AV} {s st : St} {ks : List Nat} (hf : E.frz f = 2) (hl : st.log ≠ []) (hz : frzV st 0 40 v [] = some (w, ks)) (hk : ∀ b ∈ ks, st.bound ≤ b) : leave E f s v st = some (.val w (s.back (kill st ks))) := by
  unfold leave frozen
  rw [hf]
  simp only
  show ((frozenFrom 0 v st).bind _) = _
  unfold frozenFrom
  rw [hz]
  simp only [Qe]
  have hlk : (kill st ks).log = st.log := by
    clear hz hl
    revert st
    induction ks with
    | nil => intro st _; rfl
    | cons b ks ih =>
      intro st hk
      have hb : (st.put b none).log = st.log := by
        show (bif Nat.blt b st.bound then _ else st.log) = _
        have : Nat.blt b st.bound = false := by
          cases h : Nat.blt b st.bound with
          | false => rfl
          | true => have h2 : b < st.bound := Qc h
                    have := hk b (Qh ..)
                    omega
        rw [this]; rfl
      show (kill (st.put b none) ks).log = _
      rw [ih (st := st.put b none) fun c hc => hk c (Qg _ hc)]
      exact hb
  unfold leaveQ
  rw [hlk]
  cases hh : st.log with
  | nil => exact absurd hh hl
  | cons a b => rfl
theorem Chg.kill {own:Nat→Prop}:∀ {ks:List Nat} {s st:St},Chg s st own→(∀b∈ks,s.next≤b)→s.bound≤s.next→Chg s (kill st ks) own
 | [],_,_,h,_,_=>h
 |b::ks,s,st,h,hk,hb=>Chg.kill (ks:=ks) (st:=st.put b none) (h.trans Chg.put (fun _ h=>h) (fun c hc=>by subst hc;exact .inr (hk _ (Qh ..))) hb) (fun c hc=>hk c (Qg _ hc)) hb
theorem Loggd.kill:∀ {ks:List Nat} {s st:St},Loggd s st→Loggd s (kill st ks)
 | [],_,_,h=>h
 |b::ks,_,st,h=>Loggd.kill (ks:=ks) (st:=st.put b none) (h.trans Loggd.put)
theorem kill_off {c:Nat} {ks:List Nat} {st:St} (h:c∉ks):(kill st ks).heap.get c=st.heap.get c:=by rw[kill_get,if_neg h]
theorem kill_next:∀ {ks:List Nat} {st:St},(kill st ks).next=st.next
 | [],_=>rfl
 |b::ks,st=>kill_next (ks:=ks) (st:=st.put b none)
theorem Grown.fz {s:St} {e:TypeId} {k n:Nat} {v:AV} {cs:List AV} (h:Grown s e k v cs n) (hn:n≠0) (j:Nat) (hm:frzV.many (frzV s 0 j) cs []=some (cs,[])) (hcl:cs.all (closedV 40)=true):
 ∃b,frzV s 0 (j+1) v []=some (.islice cs n k true,[b])∧ownB b v=true∧b<s.next:=by
 rcases h with⟨_,h0,_⟩|⟨b,rfl,hb,hg,hl,_⟩
 ·exact absurd h0 hn
 ·refine⟨b,?_,Nat.beq_refl b,hb⟩
  rw[frz_slice (Qn _) hg hl hm,hcl]
theorem Grown.zero {s:St} {e:TypeId} {k:Nat} {v:AV} {cs:List AV} (h:Grown s e k v cs 0):v= .nilslice∧cs=[]:=by
 rcases h with⟨h1,_,h2⟩|⟨b,_,_,_,_,h0⟩
 ·exact⟨h1,h2⟩
 ·exact absurd U h0
end Am
