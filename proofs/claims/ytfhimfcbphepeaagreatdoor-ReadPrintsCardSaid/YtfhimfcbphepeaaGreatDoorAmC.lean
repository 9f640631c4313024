/- The abstract machine: its operations are the model's, second part. -/
import Derived.Test.YtfhimfcbphepeaaGreatDoorAmB
import Derived.Maps.AppendAt
set_option linter.unusedSectionVars false
set_option linter.unusedVariables false
set_option linter.unusedSimpArgs false
namespace Am
open Go
section
variable {E : a_} {P : Program} (he : Ym E P)
theorem GN (z:Array Value) (n:Nat):(Builtin.zeroCells z n).size=n*z.size:=by simp[Builtin.zeroCells]
theorem more_ok {C:Cx} {S:St} {w:World} (hS:YR C S w) {ec new:List AV} {dK xs:List Value} (ho:Y0 C ec dK) (hn:Y0 C new xs) (hco:h_ ec) (uy:h_ new)
 {e:TypeId} {sz len n nc:Nat} {z:Array Value} (hz:z.size=sz) (uK:0<sz) (hol:dK.length=len*sz) (xF:xs.length=n*sz) (hnc:len+n<=nc):
 ∃C',C6 C S w C' (S.A (.J (ec++new) e true)) (w.drew.alloc (.cells (dK.toArray++(xs.toArray++Builtin.zeroCells z (nc-(len+n)))) e))/\
  VR C' (.slice S.a 0 (len+n) sz none) (.slice (some ⟨w.heap.size,0,none⟩) (len+n) nc):=by
 have ku:=C6.B hS (w.drawn+1);have yE:(dK.toArray++(xs.toArray++Builtin.zeroCells z (nc-(len+n)))).size=nc*sz:=by
  simp only[Array.size_append,List.size_toArray,GN,hol,xF,hz];rw[<-Nat.add_assoc,<-Nat.add_mul,<-Nat.add_mul]
  congr 1;omega
 refine⟨_,ku.trans (DQ ku.c (cs:=ec++new) (vs:=dK++xs) (ex:=(Builtin.zeroCells z (nc-(len+n))).toList) (ho.A hn) ?_ (hco.append uy) e true (fun h=>by cases h)),?_⟩
 .simp
 .exact DZ (cap:=none) ⟨yE.symm,uK⟩ hnc
theorem yR {C:Cx} {S:St} {w:World} (hS:YR C S w) {b off len n c sz:Nat} {e:TypeId} {cs ec new:List AV} {xs:List Value} {part:Bool} (hb:S.heap.u b=some (.J cs e part))
 (hold:y_ cs off (len*sz)=some ec) (hn:Y0 C new xs) (uy:h_ new) (xF:xs.length=n*sz) (dS:(C.a b).base+off+c*sz=(C.a b).size) (uK:0<sz) (b7:len+n<=c):
 ∃C' w',(storeCells ⟨(C.a b).Cr,(C.a b).base+off+len*sz,none⟩ xs).run P w= .ok () w'/\C6 C S w C' ((S.B b none).A (.J (ec++new) e true)) w'/\
  VR C' (.slice S.a 0 (len+n) sz none) (.slice (some ⟨(C.a b).Cr,(C.a b).base+off,none⟩) (len+n) c):=by
 obtain⟨hd,x,hx,hr⟩:=hS.a b _ hb;cases hr with
 |J Zh ha af YO hf hp=>
 rename_i cc fr vs
 obtain⟨y,hy,hyd,hol,hco,_,nq⟩:=Zh.I hold;have hyl:y.length=len*sz:=hy.u.trans hol;have hmul:(len+n)*sz<=c*sz:=Nat.mul_le_mul_right sz b7;rw[Nat.add_mul]at hmul;have hone:∀u∈xs,u.oneCell'=true:=by
  intro u hu;obtain⟨i,hi⟩:=List.getElem?_of_mem hu;have tG:i<new.length:=by
   have:=hn.u;rcases Nat.lt_or_ge i xs.length with h'|h'
   .omega
   .rw[List.getElem?_eq_none h']at hi;cases hi
  obtain⟨y',xA,hr⟩:=hn.M (Qi tG);rw[hi]at xA;cases xA;exact hr.vC (uy _ (Ql tG))
 have CG:=EA (P:=P) xs (Cr:=(C.a b).Cr) (off:=(C.a b).base+off+len*sz) (i:=0) hx hf (by omega) hone;refine⟨C.J S.a ⟨(C.a b).Cr,(C.a b).base+off,(C.a b).size⟩,_,by simpa using CG,?_,?_⟩
 .refine NO hS hb _ _ ((C.a b).base+off) (C.a b).size ?_;have dI:=n_.B (C:=C) (b:=S.a) (p:=⟨(C.a b).Cr,(C.a b).base+off,(C.a b).size⟩) (fun hd=>Nat.lt_irrefl _ (hS.fresh _ hd));have hxat:∃pre nE post,cc.toList=pre++y++nE++post/\pre.length=(C.a b).base+off/\nE.length=xs.length:=by
   obtain⟨p1,q1,e1,e2⟩:=ha;obtain⟨p2,q2,e3,e4⟩:=nq;have hlen:=congrArg List.length e1;rw[e3]at hlen;simp only[Qm,Array.length_toList]at hlen;refine⟨p1++p2,(q2++q1).take xs.length,(q2++q1).drop xs.length,?_,by simp[e2,e4],?_⟩
   .rw[e1,e3,List.append_assoc _ (List.take _ _),List.take_append_drop];simp
   .rw[List.length_take];apply Nat.min_eq_left;simp only[Qm];omega
  obtain⟨pre,nE,post,bu,ZV,yS⟩:=hxat;have eE:=Gs xs cc ((C.a b).base+off+len*sz) (pre++y) nE post bu (by simp[ZV,hyl]) yS;refine .J (vs:=y++xs) ((hy.A hn).mono dI) ?_ ?_ ((hco YO).append uy) (by rw[DP];exact hf) (fun h=>by cases h)
  .rw[Bc,eE];exact⟨pre,post,by simp,ZV⟩
  .rw[Bc,DP];exact af
 .have:=VR.slice (C:=C.J S.a ⟨(C.a b).Cr,(C.a b).base+off,(C.a b).size⟩) (b:=S.a) (off:=0) (len:=len+n) (sz:=sz) (cap:=none) (c:=c) (Jp _ _ _)
   (by simp only[tE,Bc];exact⟨by simpa using dS,uK⟩) b7
  rw[Bc]at this;exact this
end
section
variable {E : a_} {P : Program} (he : Ym E P)
theorem X9 (w:World):w.drew.heap=w.heap:=rfl
structure uO (P:Program) (e:TypeId) (sz CZ n:Nat) (xs:List Value) (z:Array Value) (x:Value) (R:Sem Value) (w:World):Prop where
 b:∀a len cap w',x= .slice a len cap->len+n<=cap->fU P a (len*sz) xs w w'->
  R.run P w= .ok (.slice a (len+n) cap) w'
 c:∀a len cap dK,x= .slice a len cap->cap<len+n->m_ (len+n) CZ=true->n≠0->(Builtin.firstCells sz len x).run P w.drew= .ok dK w.drew->
  R.run P w= .ok (.slice (some ⟨w.heap.size,0,none⟩) (len+n) (grownCap w (len+n) cap e))
   (w.drew.alloc (.cells (dK++(xs.toArray++Builtin.zeroCells z (grownCap w (len+n) cap e-(len+n)))) e))
theorem UC {sz len n:Nat} {cap:Option Nat} {l:List AV} (h:mq sz len n cap l=true):match cap with|some c=>len+n<=c|none=>(len+n)*sz<=l.length:=by
 cases cap with
 |some c=>exact Qc h
 |none=>have:=Qc h;simpa using this
theorem Xs {sz len n:Nat} {cap:Option Nat} {l:List AV} (h:mq sz len n cap l=false):∀c,cap=some c->c<len+n:=by grind [mq,Qd]
theorem KK {C:Cx} {S S':St} {w:World} (hS:YR C S w) {e:TypeId} {sz CZ n:Nat} (uK:sz≠0) {new:List AV} {xs:List Value} {z:Array Value} {v r:AV} {x:Value} {R:Sem Value}
 (hv:VR C v x) (hn:Y0 C new xs) (uy:h_ new) (xF:xs.length=n*sz) (hz:z.size=sz) (hR:uO P e sz CZ n xs z x R w)
 (h:CJ S e sz CZ new n v=some (r,S')):∃C' y w',R.run P w= .ok y w'/\C6 C S w C' S' w'/\VR C' r y:=by
 have none_:∀a len cap,x= .slice a len cap->len<=cap->n=0->R.run P w= .ok x w:=by
  intro a len cap hx cM h0;subst h0;have:xs=[]:=List.eq_nil_of_length_eq_zero (by simpa using xF);subst this;have:=hR.b a len cap w hx cM (by cases a<;>simp[fU,storeCells]);rw[this,hx];rfl
 have bz:∀ {b:Bool} {A B:Option (AV×St)},(b=true->A=some (r,S')->∃C' y w',R.run P w= .ok y w'/\C6 C S w C' S' w'/\VR C' r y)->
  (b=false->B=some (r,S')->∃C' y w',R.run P w= .ok y w'/\C6 C S w C' S' w'/\VR C' r y)->(bif b then A else B)=some (r,S')->
  ∃C' y w',R.run P w= .ok y w'/\C6 C S w C' S' w'/\VR C' r y:=by
  intro b A B ha hb h;cases b with
  |true=>exact ha rfl h
  |false=>exact hb rfl h
 have n0:Nat.beq n 0=false->n≠0:=by rintro h rfl;cases h
 have more_:∀ {S1:St},C6 C S w C S1 w->∀ {ec:List AV} {dK:List Value} {a:Option Addr} {len cap:Nat},x= .slice a len cap->cap<len+n->m_ (len+n) CZ=true->n≠0->
  Y0 C ec dK->h_ ec->dK.length=len*sz->(Builtin.firstCells sz len x).run P w.drew= .ok dK.toArray w.drew->
  r= .slice S1.a 0 (len+n) sz none->S'=S1.A (.J (ec++new) e true)->∃C' y w',R.run P w= .ok y w'/\C6 C S w C' S' w'/\VR C' r y:=by
  intro S1 t1 ec dK a len cap hx ek en se ho hco hol hfc hr yT;subst hr;subst yT;have CG:=hR.c a len cap dK.toArray hx ek en se hfc;obtain⟨C',t,oS⟩:=more_ok (e:=e) t1.c ho hn hco uy hz (Nat.pos_of_ne_zero uK) hol xF (grownCap_ge w (len+n) cap e);exact⟨C',_,_,CG,t1.trans t,oS⟩
 have blocks:∀ {b off len c:Nat} {cap:Option Nat} {a:Addr},VR C (.slice b off len sz cap) x->x= .slice (some a) len c->C.D b->len<=c->
  (a=⟨(C.a b).Cr,(C.a b).base+off,none⟩\/(c=0/\cap=some 0))->
  (match cap with|some 0=>len=0/\(c=0\/(C.a b).base+off+c*sz=(C.a b).size)|some k=>c=k|none=>(C.a b).base+off+c*sz=(C.a b).size)->n≠0->m_ (len+n) CZ=true->
  dg S e sz new n b off len cap (S.heap.u b)=some (r,S')->∃C' y w',R.run P w= .ok y w'/\C6 C S w C' S' w'/\VR C' r y:=by
  intro b off len c cap a eV hx hd cM ha ek se en h;cases hb:S.heap.u b with
  |none=>rw[hb]at h;simp[dg]at h
  |some ob=>
  rw[hb]at h;unfold dg at h;split at h
  .next cs e0 sl heq=>
   cases heq;unfold fp at h;obtain⟨l,hl,h⟩:=Qa.1 h;revert h;refine bz ?_ ?_
   .
     intro hf h;obtain⟨bq,x9,h⟩:=Qa.1 h;cases h;have hf':=UC hf;have hw:fO S b (off+len*sz) new=some (S.B b (some (.J bq e0 sl))):=by grind [fO,jU,putCells]
     obtain⟨w',CG,t,_⟩:=MH (P:=P) hS hn uy hw;obtain⟨_,c',ty,fr,vs,yJ,Zh,nq,af,_,_⟩:=hS.u (b:=b) (cs:=cs) (by rw[hb];rfl);have hle:len+n<=c:=by
      cases cap with
      |some k=>grind
      |none=>
       simp only at hf' ek;obtain⟨pre,jm,ZV⟩:=BQ hl;have h1:=Zh.u;have h2:=nq.le;simp only[Array.length_toList]at h2;have h3:cs.length=off+l.length:=by rw[jm];simp[ZV]
       have:(len+n)*sz<=c*sz:=by omega
       exact Nat.le_of_mul_le_mul_right this (Nat.pos_of_ne_zero uK)
     have ha':a=⟨(C.a b).Cr,(C.a b).base+off,none⟩:=by grind
     subst ha';refine⟨C,_,w',hR.b _ _ _ w' hx hle ?_,t,?_⟩
     .grind [fU,Bh,Nat.add_assoc]
     .refine .slice hd ?_ hle;cases cap with
      |some k=>
       cases k with
       |zero=>simp only at hf';omega
       |succ k=>exact⟨ek,by omega⟩
      |none=>exact⟨ek,Nat.pos_of_ne_zero uK⟩
   .
     intro hf;refine bz ?_ (fun _ h=>by cases h);intro hc h;obtain⟨ec,hold,h⟩:=Qa.1 h;cases h;have hcut:y_ cs off (len*sz)=some ec:=by unfold y_;rw[hl];exact hold
     have lJ:ZQ S sz (.slice b off len sz cap)=some (ec,len):=by simp_all [ZQ,Y4]
     obtain⟨dK,_,ho,hco,hol,hfc⟩:=HE (P:=P) hS eV lJ;by_cases rn:len+n<=c
     .have htail:kY cap=true:=by
       cases cap with
       |none=>rfl
       |some k=>
        cases k with
        |zero=>rfl
        |succ k=>have:=Xs hf _ rfl;simp only at ek;omega
      have hee:e=e0:=by simp_all
      subst hee;have ha':a=⟨(C.a b).Cr,(C.a b).base+off,none⟩/\(C.a b).base+off+c*sz=(C.a b).size:=by
       cases cap with
       |none=>exact⟨ha.resolve_right (fun h=>by cases h.2),ek⟩
       |some k=>
        cases k with
        |zero=>grind
        |succ k=>cases htail
      obtain⟨rfl,dS⟩:=ha';obtain⟨C',w',CG,t,oS⟩:=yR (P:=P) hS hb hcut hn uy xF dS (Nat.pos_of_ne_zero uK) rn;have cI:fo S b cap=S.B b none:=by unfold fo;rw[htail];rfl
      rw[cI];exact⟨C',_,w',hR.b _ _ _ w' hx rn (by simp only[fU,Bh];exact CG),t,oS⟩
     .have t1:C6 C S w C (fo S b cap) w:=by
       unfold fo;cases kY cap with
       |true=>exact C6.N hS b
       |false=>exact C6.u hS
      refine more_ t1 hx (by omega) en se ho hco hol (hfc w.drew (X9 w)) ?_ U;unfold fo;cases kY cap<;>rfl
  .cases h
 cases hv with
 |Ca a yN=>
  simp only[CJ]at h;revert h;refine bz ?_ ?_
  .intro h0 h;cases h;have:=Qb h0;exact⟨C,_,w,none_ a 0 0 U (Qj _) this,C6.u hS,.Ca a yN⟩
  .intro h0;refine bz ?_ (fun _ h=>by cases h);intro en h;cases h;refine more_ (C6.u hS) (dK:=[]) (ec:=[]) U (by have:=n0 h0;omega) (by simpa using en) (n0 h0) .O (fun _ h=>by cases h) (by simp) ?_ (by simp) (by simp);cases a with
   |none=>rfl
   |some a=>simp[Builtin.firstCells,loadCells,loadCellsFrom]
 |Zk a hl cM=>
  simp only[CJ]at h;revert h;refine bz ?_ (fun _ h=>by cases h);intro h0 h;cases h;have:=Qb h0;exact⟨C,_,w,none_ _ _ _ U cM this,C6.u hS,.Zk a hl cM⟩
 |Ck hl hm ha Zh hc YO cM=>
  simp only[CJ]at h;revert h;refine bz ?_ (fun _ h=>by cases h);intro h0 h;cases h;have:=Qb h0;exact⟨C,_,w,none_ _ _ _ U cM this,C6.u hS,.Ck hl hm ha Zh hc YO cM⟩
 |slice hd hc cM=>
  rename_i b off len db cap c
  simp only[CJ]at h;revert h;refine bz ?_ ?_
  .intro h0 h;cases h;have:=Qb h0;exact⟨C,_,w,none_ _ _ _ U cM this,C6.u hS,.slice hd hc cM⟩
  .intro h0;refine bz ?_ (fun _ h=>by cases h);intro en h;simp only[Qf]at en;have hz':db=sz:=Qb en.1;subst hz';refine blocks (.slice hd hc cM) U hd cM (.inl U) ?_ (n0 h0) en.2 h;cases cap with
   |none=>exact hc.1
   |some k=>
    cases k with
    |zero=>exact absurd hc.2 (Nat.lt_irrefl _)
    |succ k=>exact hc.1
 |ZX yN hd hc=>
  rename_i b off db a c
  simp only[CJ]at h;revert h;refine bz ?_ ?_
  .intro h0 h;cases h;have:=Qb h0;exact⟨C,_,w,none_ _ _ _ U (Qo _) this,C6.u hS,.ZX yN hd hc⟩
  .intro h0;refine bz ?_ (fun _ h=>by cases h);intro en h;simp only[Qf]at en;have hz':db=sz:=Qb en.1;subst hz';refine blocks (.ZX yN hd hc) U hd (Qo _) ?_ ⟨rfl,hc.imp id (fun h=>h.2.1)⟩ (n0 h0) en.2 h;rcases hc with h|h
   .exact .inr ⟨h,U⟩
   .exact .inl h.1
 |_=>simp[CJ]at h
theorem Li (z:Array Value) (n:Nat):(Builtin.zeroCells z n).toList=(List.replicate n z.toList).flatten:=JD z n
include he
theorem O0 {t:TypeId} {z:AV} (e:i_ E t=some z):∃x,(∀w,(zeroValue t).run P w= .ok x w)/\(∀C,VR C z x):=by
 unfold i_ at e;cases hi:E.b.u t with
 |none=>rw[hi]at e;cases e
 |some i=>
  rw[hi]at e;simp only at e;cases hz:i.zero with
  |none=>rw[hz]at e;cases e
  |some x=>
   rw[hz]at e;exact⟨x,fun w=>by simp[zeroValue,BO he hi,hz],fun C=>Nl (FK e).1⟩
theorem Wu {o:Oper} {c:Call} {sT:TypeId} {ts:List TypeId} {x y:Operand} (ho:o.op= .call c) (hc:c.callee= .builtin .append) (th:c.argTypes.toList=sT::ts) (iw:c.args.toList=[x,y]):
 b5 E P o (iE E sT ts.head? x y):=by
 unfold iE;split
 .next e hu=>
  split
  .next sz CZ z af kO hz=>
   cases hb:(!(Nat.beq (ZA z.u) sz)||Nat.beq sz 0|| !(iD E ts.head?))with
   |true=>exact Ao
   |false=>
   simp only[cond_false];rw[Bool.or_eq_false_iff,Bool.or_eq_false_iff]at hb;have hzs:∀u,ts.head?=some u->∃d,CS E u=some d:=by
    intro u hu;have h2:=hb.2;rw[hu]at h2;simp only[iD,Bool.not_eq_false']at h2;cases hd:CS E u with
    |none=>rw[hd]at h2;cases h2
    |some d=>exact⟨d,rfl⟩
   replace hb:=hb.1;have yC:z.u.length=sz:=by simp_all
   have uK:sz≠0:=by rintro rfl;simp at hb
   obtain⟨zv,xE,pk⟩:=O0 he hz;have hzsz:zv.cells.size=sz:=by have:=(pk ⟨fun _=>⟨0,0,0⟩,fun _=>none,fun _=>False,fun _ _=>0,fun _ _=>False,fun _=>False⟩).u.u;simpa[yC]using this
   have qI:c.argTypes[0]?=some sT:=by rw[<-Array.getElem?_toList,th];rfl
   have hts1:c.argTypes.toList.tail.head?=ts.head?:=by rw[th];rfl
   have hts2:∀u,c.argTypes[1]?=some u->∃d,CS E u=some d:=by grind [List.head?_eq_getElem?]
   have aN:∀ρ:Operand->Value,c.args.map ρ= #[ρ x,ρ y]:=by
    intro ρ;apply Array.ext';simp[iw]
   have hZ:∀(ρ:Operand->Value) (w:World),(execOp ρ o).run P w=(do pure (Next.value (<-Builtin.append_ c.argTypes o.type #[ρ x,ρ y])):Sem Next).run P w:=by
    intro ρ w;simp[execOp,ho,resolve,hc,invoke,builtin,aN]
   have slc:∀ {C:Cx} {S:St} {v:AV} {r:AV×St} {new:List AV} {n:Nat} {xv:Value},VR C v xv->CJ S e sz CZ new n v=some r->∃a l k,xv= .slice a l k:=by
    intro C S v r new n xv hv h;cases hv with
    |Ca|Zk|Ck|slice|ZX=>exact⟨_,_,_,rfl⟩
    |_=>simp[CJ]at h
   cases hzb:aB E ts.head? with
   |true=>
    simp only[cond_true];intro C T a S w hg hT hS v S' h;obtain⟨av,oy,h⟩:=Qa.1 h;obtain⟨bv,yU,h⟩:=Qa.1 h;obtain⟨p,hp,h⟩:=Qa.1 h;obtain⟨n,hn,hp⟩:=Qa.1 hp;cases hle:Nat.ble n 1048576 with
    |false=>rw[hle]at hp;cases hp
    |true=>
    rw[hle]at hp;cases hp;have hn':=Qc hle;obtain⟨k,hk⟩:=Gv (An hg hT yU) hn;have eV:=An hg hT oy;obtain⟨sa,sl,sc,wL⟩:=slc eV h;have xG:n=0\/CZ<=1048576:=by
     by_cases h0:n=0
     .exact .inl h0
     .right;have yV:Nat.beq n 0=false:=by cases n with|zero=>exact absurd rfl h0|succ n=>rfl
      cases av with
      |Ca=>
       simp only[CJ,yV,cond_false]at h;cases en:m_ n CZ with
       |false=>rw[en]at h;cases h
       |true=>exact(Dx en).2.2.2
      |slice b off len db cap=>
       simp only[CJ,yV,cond_false]at h;cases en:m_ (len+n) CZ with
       |false=>rw[en]at h;simp at h
       |true=>exact(Dx en).2.2.2
      |Ck cs l s cl=>simp[CJ,yV]at h
      |_=>simp[CJ]at h
    have hR:uO P e sz CZ n (Builtin.zeroCells zv.cells n).toList zv.cells (a.eval x) (Builtin.append_ c.argTypes o.type #[a.eval x,a.eval y]) w:=by
     rw[hk];refine⟨fun a' len cap w' hx b7 Zc=>?_,fun a' len cap dK hx ek en se ho=>?_⟩
     .grind [JA]
     .rw[hx];have:=IV he (k:=k) (ty:=o.type) qI hu af kO (by rw[hts1];exact hzb) hn' xE (dK:=dK.toList) (by rw[<-hx];simpa using ho) ek en uK se;simpa using this
    have hrep:=(pk C).u.G n;obtain⟨C',q,w',CG,t,oS⟩:=KK (P:=P) hS uK eV (xs:=(Builtin.zeroCells zv.cells n).toList) (by rw[Li];exact hrep) (((pk C).B (D7 hz)).repeat n)
     (by simp[GN,hzsz]) hzsz hR h
    exact⟨C',_,w',by rw[hZ];simp[CG],t,.J oS⟩
   |false=>
    simp only[cond_false];intro C T a S w hg hT hS v S' h;obtain⟨av,oy,h⟩:=Qa.1 h;obtain⟨bv,yU,h⟩:=Qa.1 h;obtain⟨p,hp,h⟩:=Qa.1 h;have eV:=An hg hT oy;obtain⟨xs,hl,Zh,YO,xF,hfc⟩:=PW (P:=P) hS (An hg hT yU) hp;have hR:uO P e sz CZ p.2 xs zv.cells (a.eval x) (Builtin.append_ c.argTypes o.type #[a.eval x,a.eval y]) w:=by
     refine⟨fun a' len cap w' hx b7 Zc=>?_,fun a' len cap dK hx ek en se ho=>?_⟩
     .rw[hx];exact Lm he qI hu af (by rw[hts1];exact hzb) hl (hfc w U) b7 hts2 Zc
     .rw[hx];have:=J9 he (ty:=o.type) qI hu af kO (by rw[hts1];exact hzb) hl (hfc w.drew rfl) (dK:=dK.toList) (by rw[<-hx];simpa using ho) xE ek en hts2;simpa using this
    obtain⟨C',q,w',CG,t,oS⟩:=KK (P:=P) hS uK eV Zh YO xF hzsz hR h;exact⟨C',_,w',by rw[hZ];simp[CG],t,.J oS⟩
  .exact Ao
 .exact Ao
end
section
variable {E : a_} {P : Program}
theorem GT {C:Cx} {S:St} {w:World} (hS:YR C S w) {v:AV} {x:Value} (hv:VR C v x) {sz:Nat} {p:List AV×Nat} (e:YQ S sz v=some p) {m:Nat} (hm:m<=p.2)
 {l:List AV} (hl:o_ (m*sz) p.1=some l):
 ∃xs,(Builtin.lenOf x).run P w= .ok p.2 w/\Y0 C l xs/\h_ l/\xs.length=m*sz/\(Builtin.firstCells sz m x).run P w= .ok xs.toArray w:=by
 obtain⟨post,hp,sd⟩:=Dk hl;unfold YQ at e;split at e
 .next b=>
  cases hb:Nat.beq sz 1 with
  |false=>rw[hb]at e;cases e
  |true=>
   rw[hb]at e;cases e;have:sz=1:=Qb hb;subst this;cases hv with
   | @O _ l' s hs=>
   obtain⟨b1,b2,b3⟩:=E4 (C:=C) b;simp only at hp;rw[hp]at b1 b2;obtain⟨y,z,hyz,h1,h2⟩:=AK b1;refine⟨y,by simp[Builtin.lenOf,<-hs],h1,b2.sub.1,h1.u.trans sd,?_⟩;have hy:y=(b.take m).map fun c=>Value.int .u8 c.toNat:=by
    have hyl:y.length=m:=by rw[h1.u,sd,Nat.mul_one]
    rw[List.map_take,hyz,<-hyl];simp
   subst hs;rw[hy];simp[Builtin.firstCells];apply Array.ext';simp
 .obtain⟨a,c,vs,rfl,Zh,YO,hlen,ox,tM⟩:=Fi hS hv e;rw[hp]at Zh YO;obtain⟨y,z,rfl,h1,h2⟩:=AK Zh;refine⟨y,U,h1,YO.sub.1,h1.u.trans sd,?_⟩;cases a with
  |none=>
   have:=tM rfl;simp only[List.append_eq_nil_iff]at this;rw[this.1];rfl
  |some ad=>
   refine Hw (fun j v hj=>ox ad U j v ?_) _ (h1.u.trans sd);have C8:j<y.length:=by
    rcases Nat.lt_or_ge j y.length with h|h
    .exact h
    .rw[List.getElem?_eq_none h]at hj;cases hj
   rw[List.getElem?_append_left C8];exact hj
theorem V0 {w w':World} {a:Addr} (h:(storeCells a []).run P w= .ok () w'):w'=w:=by
 simp[storeCells]at h;exact h.symm
theorem MO {C:Cx} {S S':St} {w:World} (hS:YR C S w) {b off len sz:Nat} {cap:Option Nat} {x:Value} (hv:VR C (.slice b off len sz cap) x) {vs:List AV} {xs:List Value} (Zh:Y0 C vs xs)
 (hc:h_ vs) (h0:len=0->vs=[]) (e:fO S b off vs=some S'):∃a c w',x= .slice (some a) len c/\(storeCells a xs).run P w= .ok () w'/\C6 C S w C S' w':=by
 obtain⟨w',CG,t,_⟩:=MH (P:=P) hS Zh hc e;cases hv with
 |slice hd ek cM=>exact⟨_,_,w',rfl,CG,t⟩
 |ZX hxx hd ek=>
  have:=h0 rfl;subst this;cases Zh;cases V0 CG;exact⟨_,_,_,U,by simp[storeCells],t⟩
variable (he : Ym E P)
include he
omit he in
theorem XI {o:Oper} {c:Call} {x y:Operand} (ho:o.op= .call c) (hc:c.callee= .builtin .copy) (iw:c.args.toList=[x,y]) (ρ:Operand->Value) (w:World):
 (execOp ρ o).run P w=(do pure (Next.value (<-Builtin.copy_ c.argTypes o.type #[ρ x,ρ y])):Sem Next).run P w:=by
 have aN:c.args.map ρ= #[ρ x,ρ y]:=by apply Array.ext';simp[iw]
 simp[execOp,ho,resolve,hc,invoke,builtin,aN]
theorem ok_copy {o:Oper} {c:Call} {t:TypeId} {ts:List TypeId} {x y:Operand} (ho:o.op= .call c) (hc:c.callee= .builtin .copy) (th:c.argTypes.toList=t::ts) (iw:c.args.toList=[x,y]):
 b5 E P o (tv E t x y):=by
 unfold tv;split
 .next e hu=>
  split
  .next sz af=>
   have qI:c.argTypes[0]?=some t:=by rw[<-Array.getElem?_toList,th];rfl
   intro C T a S w hg hT hS v S' h;obtain⟨av,oy,h⟩:=Qa.1 h;obtain⟨bv,yU,h⟩:=Qa.1 h;obtain⟨p,hp,h⟩:=Qa.1 h;have eV:=An hg hT oy;have mb:=An hg hT yU;have CG:∀(ba:Option Addr) (dl k n:Nat) (xs:List Value) (w':World),a.eval x= .slice ba dl k->(Builtin.lenOf (a.eval y)).run P w= .ok n w->(Builtin.firstCells sz (Nat.min n dl) (a.eval y)).run P w= .ok xs.toArray w->
    (match ba with|some ad=>(storeCells ad xs).run P w= .ok () w'|none=>w'=w)->(execOp a.eval o).run P w= .ok (.value (goInt (Nat.min n dl:Nat))) w':=by
    intro ba dl k n xs w' hx hn hf Zc;rw[XI ho hc iw,hx];cases ba with
    |none=>subst Zc;simp[Builtin.copy_,qI,Ah he hu,A5 he af,hn,hf]
    |some ad=>simp only at Zc;simp[Builtin.copy_,qI,Ah he hu,A5 he af,hn,hf,Zc]
   cases av with
   |slice b off len db cap=>
    simp only[copyV]at h;cases hb:Nat.beq db sz with
    |false=>rw[hb]at h;cases h
    |true=>
    rw[hb]at h;have:=Qb hb;subst this;simp only[cond_true]at h;obtain⟨l,hl,h⟩:=Qa.1 h;obtain⟨s',hs',h⟩:=Qa.1 h;cases h;obtain⟨xs,hlen,Zh,YO,xF,hf⟩:=GT (P:=P) hS mb hp (Nat.min_le_left _ _) hl;obtain⟨ad,cc,w',hx,Zc,t⟩:=MO (P:=P) hS eV Zh YO (by
     rintro rfl;have:=(Dk hl).choose_spec.2;simpa using this) hs'
    exact⟨C,_,w',CG _ _ _ _ xs w' hx hlen hf Zc,t,.J (.int _ _)⟩
   |Ca=>
    cases h;generalize hq:a.eval x=q at eV;cases eV with
    |Ca ba=>
    obtain⟨xs,hlen,Zh,YO,xF,hf⟩:=GT (P:=P) hS mb hp (m:=Nat.min p.2 0) (Nat.min_le_left _ _) (l:=[]) (by rw[show Nat.min p.2 0=0 from Nat.min_zero _,Nat.zero_mul];rfl);have:xs=[]:=List.eq_nil_of_length_eq_zero (by simpa using xF);subst this;have:=CG ba 0 0 _ [] w hq hlen hf (by cases ba<;>simp[storeCells]);exact⟨C,_,w,this,C6.u hS,.J (by simpa[goInt]using VR.int (C:=C) .i64 0)⟩
   |_=>simp[copyV]at h
  .exact Ao
 .exact Ao
omit he in
omit he in
theorem L8 {o:Option St} {r:AV×St} (h:ja o=some r):∃s,o=some s/\r=(.O [],s):=by
 cases o with
 |none=>cases h
 |some s=>cases h;exact⟨s,rfl,rfl⟩
omit he in
theorem VR.A {C:Cx}:VR C (.O []) (.tuple #[]):= .J (by simpa using Y0.O)
omit he in
theorem DN {w:World} {r:Nat} {x o:Obj} (h:w.heap[r]?=some x) (hc:∀c e f,x≠ .cells c e f):(setObj r o).run P w= .ok () (World.u w r o):=by
 unfold setObj;simp only[Sem.run,h];cases x with
 |cells c e f=>exact absurd rfl (hc c e f)
 |_=>rfl
end
theorem Ft {C C':Cx} {a:AV} {x y:Value} (h:fQ a=true) (hx:VR C a x) (hy:VR C' a y):x=y:=by
 cases a with
 |int k n=>cases hx;cases hy;rfl
 |bool b=>cases hx;cases hy;rfl
 |J l=>
  cases hx with
  | @O _ _ s hs=>
  cases hy with
  | @O _ _ s' hs'=>
  have:s=s':=ByteArray.ext (Array.ext' (hs.trans hs'.symm));rw[this]
 |_=>cases h
theorem IN {C C':Cx}:∀ {l:List AV} {xs ys:List Value},l.all fQ=true->Y0 C l xs->Y0 C' l ys->xs=ys
 | [],_,_,_,.O,.O=>rfl
 |_::_,_,_,h,.J h1 t1,.J h2 t2=>by
  simp only[List.all_cons,Qf]at h;rw[Ft h.1 h1 h2,IN h.2 t1 t2]
theorem WE {C C':Cx} {a:AV} {x y:Value} (h:mm a=true) (hx:VR C a x) (hy:VR C' a y):x=y:=by
 cases a with
 |agg cs=>
  cases hx with
  |agg h1 _=>
  cases hy with
  |agg h2 _=>rw[Array.ext' (IN h h1 h2)]
 |int k n=>exact Ft rfl hx hy
 |bool b=>exact Ft rfl hx hy
 |J l=>exact Ft rfl hx hy
 |_=>cases h
theorem yW (a b:ByteArray):(a==b)=(a.data==b.data):=rfl
theorem DH {C:Cx} {a:AV} {x:Value} (h:fQ a=true) (hx:VR C a x) (n:Nat):Instr.sameBits n x x=true:=by
 cases a with
 |int k n=>cases hx;simp[Instr.sameBits]
 |bool b=>cases hx;simp[Instr.sameBits]
 |J l=>cases hx;simp[Instr.sameBits,yW]
 |_=>cases h
theorem GQ {C:Cx} (n:Nat):∀ {l:List AV} {xs:List Value},l.all fQ=true->Y0 C l xs->((xs.zip xs).all fun(x,y)=>Instr.sameBits n x y)=true
 | [],_,_,.O=>rfl
 |_::_,_,h,.J h1 t1=>by
  simp only[List.all_cons,Qf]at h;simp only[List.zip_cons_cons,List.all_cons,Qf];exact⟨DH h.1 h1 n,GQ n h.2 t1⟩
theorem QQ {C:Cx} {a:AV} {x:Value} (h:mm a=true) (hx:VR C a x) (n:Nat):Instr.sameBits (n+1) x x=true:=by
 cases a with
 |agg cs=>
  cases hx with
  |agg h1 _=>
   simp only[Instr.sameBits,Qf,beq_self_eq_true,true_and];exact GQ n h h1
 |int k n=>exact DH rfl hx _
 |bool b=>exact DH rfl hx _
 |J l=>exact DH rfl hx _
 |_=>cases h
theorem yX {P:Program} {x:Value} {w:World} (h:Instr.sameBits 10000 x x=true):(Instr.keyThatStays x x).run P w= .ok x w:=by
 simp[Instr.keyThatStays,h]
theorem Mu:∀ {l:List TypeDesc} {a b:List AV} {r:Bool},dP l a b=some r->(r=true↔a=b)
 | [],[],[],r,h=>by cases h;simp
 |d::l,a::x,b::y,r,h=>by
  simp only[dP]at h;obtain⟨q,hq,h⟩:=Qa.1 h;obtain⟨e1,_⟩:=Xw hq;cases q with
  |true=>
   have:=Mu (l:=l) h;have hab:=e1.1 rfl;rw[this];simp[hab]
  |false=>simp_all
 | [],[],_::_,_,h=>by simp[dP]at h
 | [],_::_,_,_,h=>by simp[dP]at h
 |_::_,[],_,_,h=>by simp[dP]at h
 |_::_,_::_,[],_,h=>by simp[dP]at h
theorem E2 {kd:Kd} {a b:AV} {r:Bool} (h:fh kd a b=some r):r=true↔a=b:=by
 cases kd with
 |one d=>exact(Xw h).1
 |flat l=>
  cases a<;>cases b<;>simp only[fh]at h<;>try (cases h;done)
  rw[Mu h];simp
theorem GC {kd:Kd} {k:AV}:∀ {es:List Y2} {r:Option Y2},Zl kd k es=some r->
 (∀e∈es,∃b,fh kd k e.1=some b)/\(r=none->∀e∈es,fh kd k e.1=some false)/\(∀e,r=some e->e∈es/\fh kd k e.1=some true)
 | [],r,h=>by cases h;simp
 |e::es,r,h=>by
  simp only[Zl]at h;obtain⟨b,hb,h⟩:=Qa.1 h;obtain⟨q,hq,h⟩:=Qa.1 h;obtain⟨h1,h2,h3⟩:=GC hq;refine⟨?_,?_,?_⟩
  .intro e' dI;rcases Qk.1 dI with rfl|dI
   .exact⟨b,hb⟩
   .exact h1 e' dI
  .grind
  .grind
theorem Bq {α β:Type} {f:α->β}:∀ {l:List α},(l.map f).Nodup->∀ {x y:α},x∈l->y∈l->f x=f y->x=y
 |a::l,h,x,y,hx,hy,e=>by
  simp only[List.map_cons,List.nodup_cons]at h;rcases Qk.1 hx with yJ|yJ
  .grind
  .rcases Qk.1 hy with xA|xA
   .grind
   .exact Bq h.2 yJ xA e
theorem FJ {α β:Type} {f:α->β}:∀ {l:List α},(l.map f).Nodup->l.Nodup
 | [],_=>List.nodup_nil
 |a::l,h=>by
  simp only[List.map_cons,List.nodup_cons]at h;exact List.nodup_cons.2 ⟨fun hx=>h.1 (List.mem_map.2 ⟨a,hx,rfl⟩),FJ h.2⟩
theorem YZ.B {C:Cx} {b:Nat} {es:List Y2} {l:List MapEntry} (h:YZ C b es l):l.map (·.born)=(es.map (·.2.2)).map (C.b b):=by
 induction h with
 |O=>rfl
 |J _ _ _ hn _ ih=>simp[hn,ih]
theorem YZ.u {C:Cx} {b:Nat} {es:List Y2} {l:List MapEntry} (h:YZ C b es l) {e:Y2} (he:e∈es):
 ∃m∈l,VR C e.1 m.key/\VR C e.2.1 m.val/\C.G b e.2.2/\m.born=C.b b e.2.2:=by
 induction h with
 |O=>cases he
 |J hk hv hg hn _ ih=>grind
theorem YZ.G {C:Cx} {b:Nat} {es:List Y2} {l:List MapEntry} (h:YZ C b es l) {m:MapEntry} (hm:m∈l):
 ∃e∈es,VR C e.1 m.key/\VR C e.2.1 m.val/\C.G b e.2.2/\m.born=C.b b e.2.2:=by
 induction h with
 |O=>cases hm
 |J hk hv hg hn _ ih=>
  rcases Qk.1 hm with rfl|hm
  .simp_all
  .grind
def fV (n:Nat):List MapEntry->Nat->Option (Nat×Value)
 | [],_=>none
 |e::es,i=>if e.born=n then some (i,e.val)else fV n es (i+1)
theorem Mt {n:Nat}:∀ {l:List MapEntry} {i:Nat},(∀m∈l,m.born≠n)->fV n l i=none
 | [],_,_=>rfl
 |a::l,i,h=>by simp_all [fV,Qh,Mt,Qg]
theorem Ms {n:Nat}:∀ {l:List MapEntry} {i:Nat},(∃m∈l,m.born=n)->∃j m,l[j]?=some m/\m.born=n/\fV n l i=some (i+j,m.val)
 | [],_,h=>by obtain⟨_,h,_⟩:=h;cases h
 |a::l,i,h=>by
  by_cases ha:a.born=n
  .exact⟨0,a,U,ha,by simp[fV,ha]⟩
  .obtain⟨m,hm,hn⟩:=h;have q9:m∈l:=(Qk.1 hm).resolve_left (fun e=>ha (e▸hn));obtain⟨j,m',h1,h2,h3⟩:=Ms (i:=i+1) ⟨m,q9,hn⟩;refine⟨j+1,m',by simpa using h1,h2,?_⟩;simp only[fV,if_neg ha,h3]
   congr 2;omega
section
variable {E : a_} {P : Program}
theorem LP {α:Type} (a:α):∀n,(rep a n).length=n
 |0=>rfl
 |n+1=>by simp[rep,LP a n]
theorem EB {α:Type} {w:World} {f:α->PUnit->Sem (ForInStep PUnit)}:∀ {l:List α},(∀x∈l,(f x ⟨⟩).run P w= .ok (.yield ⟨⟩) w)->(forIn l PUnit.unit f).run P w= .ok ⟨⟩ w
 | [],_=>by simp
 |a::l,h=>by simp_all [List.forIn_cons,Qh,EB,Qg]
variable (he : Ym E P)
include he
theorem Ed {t:TypeId} {d:TypeDesc} (hu:CS E t=some d) (hs:dY d=true) (empty:Bool) (n:Nat) (x:Value) (w:World):(Instr.checkKey empty (n+1) t x).run P w= .ok () w:=by
 unfold Instr.checkKey;simp only[Sem.run_bind,Ah he hu,Result.andThen_ok];cases d<;>first|rfl|cases hs
theorem RB {t:TypeId} {kd:Kd} (hk:eC E t=some kd) {C:Cx} {a:AV} {x:Value} (ha:VR C a x) (ZO:iz kd a=true) (empty:Bool) (n:Nat) (w:World):
 (Instr.checkKey empty (n+2) t x).run P w= .ok () w:=by
 rcases ET hk with⟨fs,l,hu,hl,ZV,rfl⟩|⟨m,e,d,hu,hd,hs,rfl⟩|⟨d,hu,hs,rfl⟩
 .cases ha<;>simp only[iz]at ZO<;>try (cases ZO;done)
  rename_i cs xs YO Zh
  unfold Instr.checkKey;simp only[Sem.run_bind,Ah he hu,Result.andThen_ok];rw[<-Array.forIn_toList,EB]
  .rfl
  intro f hf;obtain⟨j,hj⟩:=List.getElem?_of_mem hf;obtain⟨hlen,dL⟩:=GB hl;obtain⟨d,hdj,hoff,xH,lJ⟩:=dL j f hj;obtain⟨h1,h2⟩:=Bl lJ;have C8:j<cs.length:=by
   have:=(Fo ZO).2;have hjl:j<fs.toList.length:=by grind
   omega
  obtain⟨y,hy,_⟩:=Dy (P:=P) he lJ Zh (Qi C8) w;have hoff':f.offset=j:=by omega
  simp only[ne_eq,xH,not_false_eq_true,if_true,Sem.run_bind,hoff',hy,Result.andThen_ok,Ed he h1 h2,Sem.run_pure]
 .cases ha<;>simp only[iz]at ZO<;>try (cases ZO;done)
  rename_i cs xs YO Zh
  unfold Instr.checkKey;simp only[Sem.run_bind,Ah he hu,Result.andThen_ok];rw[Std.Legacy.Range.forIn_eq_forIn_range',EB]
  .rfl
  intro j hj;have hjm:j<m:=by simpa[Std.Legacy.Range.size]using hj
  obtain⟨h1,h2⟩:=Bl hd;have C8:j<cs.length:=by
   have:=(Fo ZO).2;rw[LP]at this;omega
  obtain⟨y,hy,_⟩:=Dy (P:=P) he hd Zh (Qi C8) w;simp only[Sem.run_bind,A5 he hs,Nat.mul_one,hy,Result.andThen_ok,Ed he h1 h2,Sem.run_pure]
 .grind [Ed]
theorem HG {t:TypeId} {kd:Kd} (hk:eC E t=some kd) {C:Cx} {k:AV} {kx:Value} (ha:VR C k kx) {n:Nat} {w:World}:∀ {L:List MapEntry} {i:Nat},
 (∀m∈L,∃a b,VR C a m.key/\fh kd k a=some b/\(b=true↔m.born=n))->(Instr.findAsking t kx L i).run P w= .ok (fV n L i) w
 | [],_,_=>rfl
 |m::L,i,h=>by
  obtain⟨a,b,h1,h2,h3⟩:=h m (Qh ..);have hb:(Op.equal t kx m.key).run P w= .ok b w:=Xv he hk ha h1 h2 9998 w;unfold Instr.findAsking;simp only[Sem.run_bind,hb,Result.andThen_ok];cases b with
  |true=>simp[fV,h3.1 rfl]
  |false=>
   have:m.born≠n:=fun e=>by have:=h3.2 e;cases this
   simp only[Bool.false_eq_true,if_false,fV,this];exact HG hk ha fun m hm=>h m (Qg _ hm)
omit he in
theorem Ua {d:TypeDesc} {C C':Cx} {a b:AV} {x y:Value} (ha:VR C a x) (hb:VR C' b y) {r:Bool} (h:wE d a b=some r):Instr.sameNow d x y=some r:=by
 unfold wE at h;split at h
 .cases ha;cases hb;cases h;rename_i p q
  cases p<;>cases q<;>rfl
 .cases ha;cases hb;split at h
  .next hk=>cases h;subst hk;simp only[Instr.sameNow,if_true,Option.some.injEq];rw[Bool.eq_iff_iff];simp
  .cases h
 .cases h;cases ha with
  |O ha=>
  cases hb with
  |O hb=>
  simp only[Instr.sameNow,yW,AY,<-ha,<-hb,Option.some.injEq];rw[Bool.eq_iff_iff];simp
 .cases h
omit he in
theorem Kr {d:TypeDesc} {C:Cx} {k:AV} {kx:Value} (ha:VR C k kx) {n:Nat}:∀ {L:List MapEntry} {i:Nat},
 (∀m∈L,∃a b,VR C a m.key/\wE d k a=some b/\(b=true↔m.born=n))->Instr.findNow d kx L i=some (fV n L i)
 | [],_,_=>rfl
 |m::L,i,h=>by
  obtain⟨a,b,h1,h2,h3⟩:=h m (Qh ..);unfold Instr.findNow;rw[Ua ha h1 h2];cases b with
  |true=>simp[fV,h3.1 rfl]
  |false=>
   have:m.born≠n:=fun e=>by have:=h3.2 e;cases this
   simp only[fV,this,if_false];exact Kr ha fun m hm=>h m (Qg _ hm)
omit he in
theorem P7 {d:TypeDesc} (hd:dY d=false) {kx:Value} {L:List MapEntry} {i:Nat} {r} (h:Instr.findNow d kx L i=some r):L=[]/\r=none:=by
 cases L with
 |nil=>cases h;exact⟨rfl,rfl⟩
 |cons m L=>
  exfalso;unfold Instr.findNow at h;have:Instr.sameNow d kx m.key=none:=by
   unfold Instr.sameNow;cases d<;>first|rfl|cases hd
  rw[this]at h;cases h
theorem Iv {t:TypeId} {kd:Kd} (hk:eC E t=some kd) {C:Cx} {k:AV} {kx:Value} (ha:VR C k kx) {n:Nat} {w:World} {L:List MapEntry}
 (h:∀m∈L,∃a b,VR C a m.key/\fh kd k a=some b/\(b=true↔m.born=n)):(Instr.findKey t kx L).run P w= .ok (fV n L 0) w:=by
 have flat:∀ {d:TypeDesc},CS E t=some d->dY d=false->(Instr.findKey t kx L).run P w= .ok (fV n L 0) w:=by
  intro d hu hs;simp only[Instr.findKey,Sem.run_bind,Ah he hu,Result.andThen_ok];split
  .next r hr=>
   obtain⟨rfl,rfl⟩:=P7 hs hr;rfl
  .exact HG he hk ha h
 rcases ET hk with⟨fs,l,hu,hl,ZV,rfl⟩|⟨m,e,d,hu,hd,hs,rfl⟩|⟨d,hu,hs,rfl⟩
 .exact flat hu U
 .exact flat hu U
 .simp only[Instr.findKey,Sem.run_bind,Ah he hu,Result.andThen_ok];rw[Kr ha (d:=d) h];rfl
theorem JZ {t:TypeId} {kd:Kd} (hk:eC E t=some kd) {C:Cx} {k:AV} {kx:Value} (ha:VR C k kx) {w:World} {b clock:Nat} {es:List Y2} {arr:Array MapEntry} {l:List MapEntry}
 (hm:mH C b es clock w arr l) {r:Option Y2} (h:Zl kd k es=some r):
 (r=none->(∀w',(Instr.findKey t kx arr.toList).run P w'= .ok none w')/\∀e∈es,k≠e.1)/\
 (∀e,r=some e->e∈es/\k=e.1/\C.G b e.2.2/\∃i m,arr[i]?=some m/\m.key=kx/\VR C e.2.1 m.val/\m.born=C.b b e.2.2/\∀w',(Instr.findKey t kx arr.toList).run P w'= .ok (some (i,m.val)) w'):=by
 obtain⟨h1,h2,h3⟩:=GC h;refine⟨fun hr=>?_,fun e hr=>?_⟩
 .have bG:=h2 hr;refine⟨fun w'=>?_,fun e dI hke=>?_⟩
  .have C8:=hm.j.I hm.i;have hb:∀m∈arr.toList,m.born≠clock:=fun m q9=>Nat.ne_of_lt (C8 m (hm.a.mem_iff.2 q9));rw[Iv he hk ha (n:=clock) (fun m q9=>?_),Mt hb];obtain⟨e,dI,h4,h5,h6,h7⟩:=hm.j.G (hm.a.mem_iff.2 q9);exact⟨e.1,false,h4,bG e dI,by simp[hb m q9]⟩
  .grind [E2]
 .obtain⟨aM,pS⟩:=h3 e hr;have hke:=(E2 pS).1 rfl;obtain⟨m,yS,h4,h5,h6,h7⟩:=hm.j.u aM;have key:∀m'∈arr.toList,∃a q,VR C a m'.key/\fh kd k a=some q/\(q=true↔m'.born=C.b b e.2.2):=by
   intro m' q9;obtain⟨e',dI,g4,g5,g6,g7⟩:=hm.j.G (hm.a.mem_iff.2 q9);obtain⟨q,hq⟩:=h1 e' dI;refine⟨e'.1,q,g4,hq,?_⟩;have Zc:(es.map (·.2.2)).Nodup:=by
    have:=hm.c;rw[hm.j.B]at this;exact FJ this
   rw[E2 hq,hke,g7];constructor
   .intro hee;have:=Bq hm.e.2 aM dI hee;rw[this]
   .intro hgg;have:=hm.inj _ _ g6 h6 hgg;rw[Bq Zc aM dI this.symm]
  obtain⟨i,m',g1,g2,g3⟩:=Ms (n:=C.b b e.2.2) (l:=arr.toList) (i:=0) ⟨m,hm.a.mem_iff.1 yS,h7⟩;have yu:m'=m:=by
   have:m'∈l:=hm.a.mem_iff.2 (List.mem_of_getElem? g1);exact Bq hm.c this yS (g2.trans h7.symm)
  subst yu;have ZO:mm e.1=true:=hm.e.1 e aM;refine⟨aM,hke,h6,i,m',by simpa using g1,WE ZO h4 (by rw[<-hke];exact ha),h5,h7,fun w'=>?_⟩;rw[Iv he hk ha key,g3];simp
end
theorem WO {α β:Type} {f:α->β}:∀ {l:List α},(l.map f).Nodup->∀ {i j:Nat} {a b:α},l[i]?=some a->l[j]?=some b->f a=f b->i=j
 | [],_,i,_,_,_,h,_,_=>by simp at h
 |c::l,hn,0,0,_,_,_,_,_=>rfl
 |c::l,hn,0,j+1,a,b,h1,h2,e=>by
  simp only[List.map_cons,List.nodup_cons]at hn;simp at h1 h2;subst h1;exact absurd (List.mem_map.2 ⟨b,List.mem_of_getElem? h2,e.symm⟩) hn.1
 |c::l,hn,i+1,0,a,b,h1,h2,e=>by
  simp only[List.map_cons,List.nodup_cons]at hn;simp at h1 h2;subst h2;exact absurd (List.mem_map.2 ⟨a,List.mem_of_getElem? h1,e⟩) hn.1
 |c::l,hn,i+1,j+1,a,b,h1,h2,e=>by
  simp only[List.map_cons,List.nodup_cons]at hn;exact congrArg (· +1) (WO (f:=f) (a:=a) (b:=b) hn.2 (by simpa using h1) (by simpa using h2) e)
def aH (n:Nat) (f:MapEntry->MapEntry) (e:MapEntry):MapEntry:=if e.born=n then f e else e
theorem JS {arr:Array MapEntry} (hn:(arr.toList.map (·.born)).Nodup) {i:Nat} {m:MapEntry} (hi:arr[i]?=some m) (f:MapEntry->MapEntry):
 (arr.modify i f).toList=arr.toList.map (aH m.born f):=by
 apply List.ext_getElem?;intro j;rw[List.getElem?_map];simp only[Array.getElem?_toList,Array.getElem?_modify];split
 .next e=>subst e;rw[hi];simp[aH]
 .next e=>
  cases hj:arr[j]? with
  |none=>rfl
  |some m'=>
   have:m'.born≠m.born:=fun hb=>e (WO (f:=MapEntry.born) hn (a:=m) (b:=m') (by simpa using hi) (by simpa using hj) hb.symm);simp[aH,this]
theorem UG {arr:Array MapEntry} (hn:(arr.toList.map (·.born)).Nodup) {i:Nat} {m:MapEntry} (hi:arr[i]?=some m):
 (arr.eraseIdxIfInBounds i).toList=arr.toList.filter (fun e=>e.born !=m.born):=by
 have key:∀(l:List MapEntry) (i:Nat),(l.map (·.born)).Nodup->l[i]?=some m->l.eraseIdx i=l.filter (fun e=>e.born !=m.born):=by
  intro l;induction l with
  |nil=>intro i _ h;simp at h
  |cons a l ih=>
   intro i hn hi;simp only[List.map_cons,List.nodup_cons]at hn;cases i with
   |zero=>
    simp at hi;subst hi;simp only[List.eraseIdx_zero,List.tail_cons,List.filter_cons,bne_self_eq_false,Bool.false_eq_true,if_false];symm;rw[List.filter_eq_self];intro e he;simp only[bne_iff_ne,ne_eq];intro hb;exact hn.1 (List.mem_map.2 ⟨e,he,hb⟩)
   |succ i=>
    simp only[List.eraseIdx_cons_succ];have hi':l[i]?=some m:=by simpa using hi
    have:a.born≠m.born:=fun hb=>hn.1 (List.mem_map.2 ⟨m,List.mem_of_getElem? hi',hb.symm⟩);simp[this,ih i hn.2 hi']
 have C8:i<arr.size:=by
  rcases Nat.lt_or_ge i arr.size with h|h
  .exact h
  .rw[Array.getElem?_eq_none h]at hi;cases hi
 rw[Array.eraseIdxIfInBounds,dif_pos C8,Array.toList_eraseIdx];exact key _ _ hn (by simpa using hi)
theorem Pj {kd:Kd} {k:AV} {e:Y2}:B' kd k e=true↔fh kd k e.1=some true:=by
 unfold B';cases h:fh kd k e.1 with
 |none=>simp
 |some b=>simp
theorem RX {C:Cx} {b:Nat} {kd:Kd} {k v:AV} {kx vx:Value} (hk:VR C k kx) (hv:VR C v vx) {n:Nat} (hi:∀j,C.G b j->C.b b j=C.b b n->j=n):
 ∀ {es:List Y2} {l:List MapEntry},YZ C b es l->(es.map (·.2.2)).Nodup->(∀e∈es,(B' kd k e=true↔e.2.2=n))->
  YZ C b (oO kd k v es) (l.map (aH (C.b b n) fun e=> {e with key:=kx,val:=vx}))
 |_,_,.O,_,_=> .O
 |e::es,m::l,.J h1 h2 h3 h4 t,hn,h=>by
  simp only[List.map_cons,List.nodup_cons]at hn;simp only[oO,List.map_cons];have hh:=h e (Qh ..);cases hq:B' kd k e with
  |true=>
   have mc:=hh.1 hq;simp only[cond_true];have hm:m.born=C.b b n:=by rw[h4];exact congrArg _ mc
   have ia:l.map (aH (C.b b n) fun e=> {e with key:=kx,val:=vx})=l:=by
    rw[List.map_congr_left (g:=id),List.map_id];intro m' q9;obtain⟨e',dI,_,_,g3,g4⟩:=t.G q9;have:m'.born≠C.b b n:=by
     rw[g4];intro hb;have:=hi _ g3 hb;exact hn.1 (List.mem_map.2 ⟨e',dI,this.trans mc.symm⟩)
    simp[aH,this]
   rw[ia];simp only[aH,hm,if_true];exact .J hk hv h3 (hm.symm.trans h4) t
  |false=>
   have mc:e.2.2≠n:=fun he=>by rw[hh.2 he]at hq;cases hq
   simp only[cond_false];have hm:m.born≠C.b b n:=by
    rw[h4];intro hb;exact mc (hi _ h3 hb)
   simp only[aH,hm,if_false];exact .J h1 h2 h3 h4 (RX hk hv hi t hn.2 fun e' dI=>h e' (Qg _ dI))
theorem Tz {C:Cx} {b:Nat} {kd:Kd} {k:AV} {n:Nat} (hi:∀j,C.G b j->C.b b j=C.b b n->j=n):
 ∀ {es:List Y2} {l:List MapEntry},YZ C b es l->(es.map (·.2.2)).Nodup->(∀e∈es,(B' kd k e=true↔e.2.2=n))->
  YZ C b (qE kd k es) (l.filter (fun e=>e.born !=C.b b n))
 |_,_,.O,_,_=> .O
 |e::es,m::l,.J h1 h2 h3 h4 t,hn,h=>by
  simp only[List.map_cons,List.nodup_cons]at hn;simp only[qE];have hh:=h e (Qh ..);cases hq:B' kd k e with
  |true=>
   have mc:=hh.1 hq;simp only[cond_true];have hm:m.born=C.b b n:=by rw[h4];exact congrArg _ mc
   have ia:l.filter (fun e=>e.born !=C.b b n)=l:=by
    rw[List.filter_eq_self];intro m' q9;obtain⟨e',dI,_,_,g3,g4⟩:=t.G q9;simp only[bne_iff_ne,ne_eq,g4];intro hb;exact hn.1 (List.mem_map.2 ⟨e',dI,(hi _ g3 hb).trans mc.symm⟩)
   simp only[List.filter_cons,hm,bne_self_eq_false,Bool.false_eq_true,if_false];rw[ia];exact t
  |false=>
   have mc:e.2.2≠n:=fun he=>by rw[hh.2 he]at hq;cases hq
   simp only[cond_false];have hm:(m.born !=C.b b n)=true:=by
    simp only[bne_iff_ne,ne_eq];rw[h4];intro hb;exact mc (hi _ h3 hb)
   simp only[List.filter_cons,hm,if_true];exact .J h1 h2 h3 h4 (Tz hi t hn.2 fun e' dI=>h e' (Qg _ dI))
theorem Oa {kd:Kd} {k v:AV}:∀ {es:List Y2},(∀e∈es,(B' kd k e=true->k=e.1))->(oO kd k v es).map (·.1)=es.map (·.1)
 | [],_=>rfl
 |e::es,h=>by
  simp only[oO];cases hq:B' kd k e with
  |true=>simp[h e (Qh ..) hq]
  |false=>simp[Oa fun e' dI=>h e' (Qg _ dI)]
theorem pT {kd:Kd} {k:AV}:∀ {es:List Y2},(qE kd k es).Sublist es
 | []=>List.Sublist.refl _
 |e::es=>by
  simp only[qE];cases B' kd k e with
  |true=>exact List.sublist_cons_self ..
  |false=>exact(pT (es:=es)).cons_cons _
theorem RG (n:Nat) (kx vx:Value) (m:MapEntry):(aH n (fun e=> {e with key:=kx,val:=vx}) m).born=m.born:=by
 unfold aH;split<;>rfl
theorem Jd {es:List Y2}:Keys es↔(∀k∈es.map (·.1),mm k=true)/\(es.map (·.1)).Nodup:=by
 unfold Keys;constructor
 .rintro⟨h1,h2⟩;refine⟨fun k hk=>?_,h2⟩;obtain⟨e,he,rfl⟩:=List.mem_map.1 hk;exact h1 e he
 .rintro⟨h1,h2⟩;exact⟨fun e he=>h1 _ (List.mem_map.2 ⟨e,he,rfl⟩),h2⟩
theorem mH.u {C:Cx} {b clock:Nat} {es:List Y2} {w:World} {arr:Array MapEntry} {l:List MapEntry} (h:mH C b es clock w arr l):(es.map (·.2.2)).Nodup:=by
 have:=h.c;rw[h.j.B]at this;exact FJ this
theorem mH.A {C:Cx} {b clock:Nat} {es:List Y2} {w:World} {arr:Array MapEntry} {l:List MapEntry} (h:mH C b es clock w arr l):(arr.toList.map (·.born)).Nodup:=
 ((h.a.map _).nodup_iff).1 h.c
theorem mH.B {C:Cx} {b clock:Nat} {es:List Y2} {w:World} {arr:Array MapEntry} {l:List MapEntry} (h:mH C b es clock w arr l) {kd:Kd} {k v:AV} {kx vx:Value} (hk:VR C k kx) (hv:VR C v vx)
 {e:Y2} (hr:Zl kd k es=some (some e)) {i:Nat} {m:MapEntry} (hi:arr[i]?=some m) (hb:m.born=C.b b e.2.2):
 OR C b (.O (oO kd k v es) clock) (.map (arr.modify i fun e=> {e with key:=kx,val:=vx}) clock):=by
 obtain⟨h1,h2,h3⟩:=GC hr;obtain⟨aM,pS⟩:=h3 e rfl;have hke:=(E2 pS).1 rfl;obtain⟨_,_,_,_,gz,_⟩:=h.j.u aM;have heq:∀e'∈es,(B' kd k e'=true↔e'.2.2=e.2.2):=by
  intro e' dI;rw[Pj];constructor
  .intro hq;have:=(E2 hq).1 rfl;rw[Bq h.e.2 dI aM (this.symm.trans hke)]
  .intro hq;rw[Bq h.u dI aM hq];exact pS
 have hkeys:(oO kd k v es).map (·.1)=es.map (·.1):=Oa fun e' _ hq=>(E2 (Pj.1 hq)).1 rfl;refine .Z (l:=l.map (aH (C.b b e.2.2) fun e=> {e with key:=kx,val:=vx})) ?_ (RX hk hv (fun j hj hg=>h.inj _ _ hj gz hg) h.j h.u heq)
  (by rw[Jd,hkeys,<-Jd];exact h.e) ?_ h.i h.g h.inj
 .rw[JS h.A hi,hb];exact h.a.map _
 .rw[List.map_map];have:((·.born)∘aH (C.b b e.2.2) fun e=> {e with key:=kx,val:=vx}:MapEntry->Nat)=(·.born):=by
   funext m;exact RG _ _ _ _
  rw[this];exact h.c
theorem mH.I {C:Cx} {b clock:Nat} {es:List Y2} {w:World} {arr:Array MapEntry} {l:List MapEntry} (h:mH C b es clock w arr l) {kd:Kd} {k:AV}
 {e:Y2} (hr:Zl kd k es=some (some e)) {i:Nat} {m:MapEntry} (hi:arr[i]?=some m) (hb:m.born=C.b b e.2.2):
 OR C b (.O (qE kd k es) clock) (.map (arr.eraseIdxIfInBounds i) clock):=by
 obtain⟨h1,h2,h3⟩:=GC hr;obtain⟨aM,pS⟩:=h3 e rfl;have hke:=(E2 pS).1 rfl;obtain⟨_,_,_,_,gz,_⟩:=h.j.u aM;have heq:∀e'∈es,(B' kd k e'=true↔e'.2.2=e.2.2):=by
  intro e' dI;rw[Pj];constructor
  .intro hq;have:=(E2 hq).1 rfl;rw[Bq h.e.2 dI aM (this.symm.trans hke)]
  .intro hq;rw[Bq h.u dI aM hq];exact pS
 refine .Z (l:=l.filter (fun e'=>e'.born !=C.b b e.2.2)) ?_ (Tz (fun j hj hg=>h.inj _ _ hj gz hg) h.j h.u heq) ?_ ?_ h.i h.g h.inj
 .rw[UG h.A hi,hb];exact h.a.filter _
 .exact⟨fun e' dI=>h.e.1 e' (pT.subset dI),(pT.map _).nodup h.e.2⟩
 .exact((List.filter_sublist).map _).nodup h.c
def Cx.U (C:Cx) (b n:Nat):Cx:= {C with b:=fun c k=>if c=b/\k=n then n else C.b c k,G:=fun c k=>C.G c k\/(c=b/\k=n)}
theorem n_.bQ {C:Cx} {b n:Nat} (h:¬C.G b n):n_ C (C.U b n):=
 ⟨fun _ h=>h,fun _ _=>rfl,fun _ _ h=>h,fun _ _ h=> .inl h,fun c k hk=>by
  have:¬(c=b/\k=n):=by rintro⟨rfl,rfl⟩;exact h hk
  simp[Cx.U,this],fun _ h=>h⟩
theorem mH.J {C:Cx} {b clock:Nat} {es:List Y2} {w:World} {arr:Array MapEntry} {l:List MapEntry} (h:mH C b es clock w arr l) {k v:AV} {kx vx:Value} (hk:VR C k kx) (hv:VR C v vx)
 (ZO:mm k=true) (bG:∀e∈es,k≠e.1):
 ¬C.G b clock/\OR (C.U b clock) b (.O (es++[(k,v,clock)]) (clock+1)) (.map (arr.push {key:=kx,val:=vx,born:=clock}) (clock+1)):=by
 have ti:¬C.G b clock:=fun hg=>Nat.lt_irrefl _ (h.g _ hg);have e:=n_.bQ ti;have hgh:(C.U b clock).b b clock=clock:=by simp[Cx.U]
 have happ:∀ {es:List Y2} {l:List MapEntry},YZ C b es l->YZ (C.U b clock) b (es++[(k,v,clock)]) (l++[{key:=kx,val:=vx,born:=clock}]):=by
  intro es l hh;induction hh with
  |O=>exact .J (hk.mono e) (hv.mono e) (.inr ⟨rfl,rfl⟩) hgh.symm .O
  |J h1 h2 h3 h4 _ ih=>exact .J (h1.mono e) (h2.mono e) (.inl h3) (h4.trans (e.c _ _ h3).symm) ih
 have C8:=h.j.I h.i;refine⟨ti,.Z (l:=l++[{key:=kx,val:=vx,born:=clock}]) ?_ (happ h.j) ⟨?_,?_⟩ ?_ ?_ ?_ ?_⟩
 .rw[Array.toList_push];exact h.a.append_right _
 .intro e' dI;rcases List.mem_append.1 dI with dI|dI
  .exact h.e.1 e' dI
  .simp only[Qp]at dI;subst dI;exact ZO
 .rw[List.map_append,List.nodup_append];refine⟨h.e.2,by simp,?_⟩;intro a ha b' dG hab;simp only[List.map_cons,List.map_nil,Qp]at dG;obtain⟨e',dI,rfl⟩:=List.mem_map.1 ha;exact bG e' dI (by rw[hab,dG])
 .rw[List.map_append,List.nodup_append];refine⟨h.c,by simp,?_⟩;intro a ha b' dG hab;simp only[List.map_cons,List.map_nil,Qp]at dG;obtain⟨m,hm,rfl⟩:=List.mem_map.1 ha;have:=C8 m hm;omega
 .rintro n (hg|⟨_,rfl⟩)
  .rw[e.c _ _ hg];exact Nat.lt_succ_of_lt (h.i n hg)
  .rw[hgh];exact Nat.lt_succ_self _
 .rintro n (hg|⟨_,rfl⟩)
  .exact Nat.lt_succ_of_lt (h.g n hg)
  .exact Nat.lt_succ_self _
 .rintro n m (hg|⟨_,rfl⟩) (jd|⟨_,rfl⟩) hh
  .rw[e.c _ _ hg,e.c _ _ jd]at hh;exact h.inj n m hg jd hh
  .rw[e.c _ _ hg,hgh]at hh;have:=h.i n hg;omega
  .rw[e.c _ _ jd,hgh]at hh;have:=h.i m jd;omega
  .rfl
section
variable {E : a_} {P : Program} (he : Ym E P)
def yY (C:Cx):Option Y2->Option (Nat×Value)->Prop
 |none,none=>True
 |some e,some p=>VR C e.2.1 p.2
 |_,_=>False
theorem kd_len {kd:Kd} {k:AV} (h:iz kd k=true):mm k=true:=Uu h
include he
theorem E0 {t:TypeId} {kd:Kd} (hk:eC E t=some kd) {C:Cx} {a:AV} {x:Value} (ha:VR C a x) (ZO:iz kd a=true) (empty:Bool) (w:World):
 (Instr.checkKey empty 10000 t x).run P w= .ok () w:=RB he hk ha ZO empty 9998 w
theorem Wj {o:Oper} {t:TypeId} {x k:Operand} {ok:Bool} (ho:o.op= .lookup t x k ok):b5 E P o (iC E t x k ok):=by
 unfold iC;split
 .next key elem hu=>
  split
  .next z kd hz hk=>
   intro C T a S w hg hT hS v h;obtain⟨av,oy,h⟩:=Qa.1 h;obtain⟨kv,hkv,h⟩:=Qa.1 h;have eV:=An hg hT oy;have wN:=An hg hT hkv;unfold cF at h;cases ZO:iz kd kv with
   |false=>rw[ZO]at h;cases h
   |true=>
   rw[ZO]at h;simp only[cond_true]at h;obtain⟨es,u0,h⟩:=Qa.1 h;obtain⟨r,hr,h⟩:=Qa.1 h;cases h;obtain⟨zv,xE,pk⟩:=O0 he hz;have iQ:=fun e w=>E0 he hk wN ZO e w;have fin:∀(arr:Array MapEntry) (q:Option (Nat×Value)),(Instr.findKey key (a.eval k) arr.toList).run P w= .ok q w->
    yY C r q->
    ∃y,((do
     Instr.checkKey arr.isEmpty 10000 key (a.eval k)
     let(v,vD)<-match<-Instr.findKey key (a.eval k) arr.toList with
      |some (_,v)=>pure (v,true)
      |none=>pure (<-zeroValue elem,false)
     pure (if ok then .tuple #[v,.bool vD]else v)):Sem Value).run P w= .ok y w/\VR C (j1 ok z r) y:=by
    intro arr q hq wO;simp only[Sem.run_bind,iQ,Result.andThen_ok,hq];cases r with
    |none=>
     cases q with
     |some p=>exact wO.elim
     |none=>
      simp only[Sem.run_bind,xE,Result.andThen_ok,Sem.run_pure];cases ok with
      |true=>exact⟨_,rfl,.J (by simpa using Y0.J (pk C) (Y0.one (.bool false)))⟩
      |false=>exact⟨_,rfl,pk C⟩
    |some e=>
     cases q with
     |none=>exact wO.elim
     |some p=>
      obtain⟨i,pv⟩:=p;simp only[Sem.run_pure,Result.andThen_ok];cases ok with
      |true=>exact⟨_,rfl,.J (by simpa using Y0.J wO (Y0.one (.bool true)))⟩
      |false=>exact⟨_,rfl,wO⟩
   cases av with
   |Zn=>
    cases u0;cases hr;generalize hq:a.eval x=q at eV;cases eV;obtain⟨y,hy,mb⟩:=fin #[] none (Iv he hk wN (n:=0) (L:=[]) (by simp)) trivial;refine⟨y,?_,mb⟩;simp only[execOp,ho,Sem.run_bind,hq,Instr.lookup,Ah he hu,Result.andThen_ok,Sem.run_pure];simp only[Sem.run_bind]at hy;exact congrArg (fun R:Result Value=>R.andThen fun a w'=>Result.ok (Next.value a) w') hy
   |H_ b=>
    simp only[iB]at u0;obtain⟨cl,hb⟩:=JW u0;obtain⟨arr,l,hm⟩:=hS.A hb;generalize hq:a.eval x=q at eV;cases eV;obtain⟨g1,g2⟩:=JZ he hk wN hm hr;have:∃q,(Instr.findKey key (a.eval k) arr.toList).run P w= .ok q w/\yY C r q:=by
     cases r with
     |none=>exact⟨none,(g1 rfl).1 w,trivial⟩
     |some e=>
      obtain⟨_,_,_,i,m,_,_,hv,_,hf⟩:=g2 e rfl;exact⟨_,hf w,hv⟩
    obtain⟨qq,hqq,wO⟩:=this;obtain⟨y,hy,mb⟩:=fin arr qq hqq wO;refine⟨y,?_,mb⟩;simp only[execOp,ho,Sem.run_bind,hq,Instr.lookup,Ah he hu,Result.andThen_ok,AN hm.f (by simp),Sem.run_pure];simp only[Sem.run_bind]at hy;exact congrArg (fun R:Result Value=>R.andThen fun a w'=>Result.ok (Next.value a) w') hy
   |_=>cases u0
  .exact Ao
 .exact Ao
omit he in
theorem Dm {C:Cx} {S:St} {w:World} (hS:YR C S w) {b:Nat} {o0:Cv} (hb:S.heap.u b=some o0) {C':Cx} (e:n_ C C') (hD:∀k,C'.D k->C.D k) (hM:C'.M=C.M) (hX:C'.X=C.X)
 (hG:∀k n,C'.G k n->C.G k n\/k=b) {o:Cv} {x y:Obj} (hx:w.heap[(C.a b).Cr]?=some y) (hc:∀c e f,y≠ .cells c e f) (hr:OR C' b o x):
 (setObj (C.a b).Cr x).run P w= .ok () (World.u w (C.a b).Cr x)/\C6 C S w C' (S.B b (some o)) (World.u w (C.a b).Cr x):=
 ⟨DN hx hc,KR hS hb e hD hM hX hG o x hr⟩
omit he in
theorem yZ {C:Cx} {k:AV} {kx:Value} (hk:VR C k kx) (ZO:mm k=true) (w:World):(Instr.keyThatStays kx kx).run P w= .ok kx w:=
 yX (QQ ZO hk 9999)
theorem W5 {t key elem:TypeId} {kd:Kd} (hu:CS E t=some (.map key elem)) (hk:eC E key=some kd) {C:Cx} {S S':St} {w:World} (hS:YR C S w) {k v m:AV} {kx vx mx:Value}
 (wN:VR C k kx) (hvv:VR C v vx) (wI:VR C m mx) (h:eR kd S k v m=some S'):∃C' w',(Instr.mapUpdate t mx kx vx).run P w= .ok () w'/\C6 C S w C' S' w':=by
 unfold eR at h;split at h
 .next b=>
  cases ZO:iz kd k with
  |false=>rw[ZO]at h;cases h
  |true=>
  rw[ZO]at h;simp only[cond_true]at h;unfold gV at h;split at h
  .next es clock hb=>
   obtain⟨r,hr,h⟩:=Qa.1 h;obtain⟨arr,l,hm⟩:=hS.A hb;obtain⟨g1,g2⟩:=JZ he hk wN hm hr;have iQ:=fun e w=>E0 he hk wN ZO e w;have hkok:=kd_len ZO;cases wI with
   |I_ hd=>
   cases r with
   |none=>
    cases h;obtain⟨ti,za⟩:=hm.J wN hvv hkok (g1 rfl).2;obtain⟨CG,ht⟩:=Dm (P:=P) hS hb (n_.bQ ti) (fun _ h=>h) rfl rfl (fun k n h=>h.imp id (fun h=>h.1)) hm.f (by simp) za;refine⟨_,_,?_,ht⟩;simp only[Instr.mapUpdate,Sem.run_bind,Ah he hu,Result.andThen_ok,AN hm.f (by simp),iQ,(g1 rfl).1,CG]
   |some e=>
    cases h;obtain⟨aM,hke,gz,i,me,hi,hmk,hmv,hmb,hf⟩:=g2 e rfl;have za:=hm.B wN hvv hr hi hmb;obtain⟨CG,ht⟩:=Dm (P:=P) hS hb (.u C) (fun _ h=>h) rfl rfl (fun k n h=> .inl h) hm.f (by simp) za;refine⟨_,_,?_,ht⟩;simp only[Instr.mapUpdate,Sem.run_bind,Ah he hu,Result.andThen_ok,AN hm.f (by simp),iQ,hf,hi,Option.map_some,Option.getD_some,hmk,yZ wN hkok,CG]
  .cases h
 .cases h
theorem OJ {o:Oper} {t:TypeId} {m k v:Operand} (ho:o.op= .mapUpdate t m k v\/o.op= .insert t m k v):b5 E P o (jX E t m k v):=by
 unfold jX;split
 .next key elem hu=>
  split
  .next kd hk=>
   intro C T a S w hg hT hS r S' h;obtain⟨av,oy,h⟩:=Qa.1 h;obtain⟨bv,yU,h⟩:=Qa.1 h;obtain⟨cv,hcv,h⟩:=Qa.1 h;obtain⟨s',dt,hr⟩:=L8 h;cases hr;obtain⟨C',w',CG,ht⟩:=W5 he hu hk hS (An hg hT yU) (An hg hT hcv) (An hg hT oy) dt;refine⟨C',.skip,w',?_,ht,.O⟩;rcases ho with ho|ho<;>simp[execOp,ho,CG]
  .exact Ao
 .exact Ao
end
theorem Hq {C:Cx} {b:Nat} {v:AV} {vx:Value} (hv:VR C v vx) {n:Nat} (hi:∀j,C.G b j->C.b b j=C.b b n->j=n):
 ∀ {es fI:List Y2} {l:List MapEntry},YZ C b es l->(es.map (·.2.2)).Nodup->mn n v es=some fI->
  YZ C b fI (l.map (aH (C.b b n) fun e=> {e with val:=vx}))/\fI.map (·.1)=es.map (·.1)/\C.G b n/\∃m∈l,m.born=C.b b n
 |_,_,_,.O,_,h=>by cases h
 |e::es,fI,m::l,.J h1 h2 h3 h4 t,hn,h=>by
  simp only[List.map_cons,List.nodup_cons]at hn;simp only[mn]at h;simp only[List.map_cons];cases hq:Nat.beq _ n with
  |true=>
   rw[hq]at h;cases h;have mc:=Qb hq;have hm:m.born=C.b b n:=by rw[h4];exact congrArg _ mc
   have ia:l.map (aH (C.b b n) fun e=> {e with val:=vx})=l:=by
    rw[List.map_congr_left (g:=id),List.map_id];intro m' q9;obtain⟨e',dI,_,_,g3,g4⟩:=t.G q9;have:m'.born≠C.b b n:=by
     rw[g4];intro hb;have:=hi _ g3 hb;exact hn.1 (List.mem_map.2 ⟨e',dI,this.trans mc.symm⟩)
    simp[aH,this]
   rw[ia];simp only[aH,hm,if_true];exact⟨.J h1 hv h3 (hm.symm.trans h4) t,U,mc▸h3,m,Qh ..,hm⟩
  |false=>
   rw[hq]at h;obtain⟨r,hr,h⟩:=Qa.1 h;cases h;have mc:¬_=n:=Nat.ne_of_beq_eq_false hq;have hm:m.born≠C.b b n:=by
    rw[h4];intro hb;exact mc (hi _ h3 hb)
   obtain⟨a1,a2,a3,m',q9,a4⟩:=Hq hv hi t hn.2 hr;simp only[aH,hm,if_false];exact⟨.J h1 h2 h3 h4 a1,by simp[a2],a3,m',Qg _ q9,a4⟩
theorem IQ {n:Nat}:∀ {l:List MapEntry},(∃m∈l,m.born=n)->∃i m,l.findIdx? (fun e=>(e.born:Int)==(n:Int))=some i/\l[i]?=some m/\m.born=n
 | [],h=>by obtain⟨_,h,_⟩:=h;cases h
 |a::l,h=>by
  by_cases ha:a.born=n
  .exact⟨0,a,by simp[List.findIdx?_cons,ha],U,ha⟩
  .obtain⟨m,hm,hn⟩:=h;have q9:m∈l:=(Qk.1 hm).resolve_left (fun e=>ha (e▸hn));obtain⟨i,m',h1,h2,h3⟩:=IQ (l:=l) ⟨m,q9,hn⟩;refine⟨i+1,m',?_,by simpa using h2,h3⟩;have:((a.born:Int)==(n:Int))=false:=by simp only[beq_eq_false_iff_ne,ne_eq];omega
   simp[List.findIdx?_cons,this,h1]
theorem mH.jv {C:Cx} {b clock:Nat} {es fI:List Y2} {w:World} {arr:Array MapEntry} {l:List MapEntry} (h:mH C b es clock w arr l) {v:AV} {vx:Value} (hv:VR C v vx) {n:Nat} (hg:C.G b n)
 (hs:mn n v es=some fI):∃i,arr.findIdx? (fun e=>(e.born:Int)==(C.b b n:Int))=some i/\OR C b (.O fI clock) (.map (arr.modify i fun e=> {e with val:=vx}) clock):=by
 obtain⟨a1,a2,a3,m,hm,a4⟩:=Hq hv (fun j hj hgj=>h.inj _ _ hj hg hgj) h.j h.u hs;obtain⟨i,m',h1,h2,h3⟩:=IQ (l:=arr.toList) ⟨m,h.a.mem_iff.1 hm,a4⟩;refine⟨i,by rw[<-h1];have:=List.findIdx?_toArray (p:=fun e:MapEntry=>(e.born:Int)==(C.b b n:Int)) (l:=arr.toList);simpa using this,.Z (l:=l.map (aH (C.b b n) fun e=> {e with val:=vx})) ?_ a1 (by rw[Jd,a2,<-Jd];exact h.e) ?_ h.i h.g h.inj⟩
 .rw[JS h.A (by simpa using h2),h3];exact h.a.map _
 .rw[List.map_map];have:((·.born)∘aH (C.b b n) fun e=> {e with val:=vx}:MapEntry->Nat)=(·.born):=by
   funext m;simp only[Function.comp,aH];split<;>rfl
  rw[this];exact h.c
section
variable {E : a_} {P : Program} (he : Ym E P)
include he
theorem Ws {o:Oper} {c:Call} {t:TypeId} {ts:List TypeId} {m k:Operand} (ho:o.op= .call c) (hc:c.callee= .builtin .delete) (th:c.argTypes.toList=t::ts) (iw:c.args.toList=[m,k]):
 b5 E P o (yb E t m k):=by
 have qI:c.argTypes[0]?=some t:=by rw[<-Array.getElem?_toList,th];rfl
 have aN:∀ρ:Operand->Value,c.args.map ρ= #[ρ m,ρ k]:=by
  intro ρ;apply Array.ext';simp[iw]
 unfold yb;split
 .next key elem hu=>
  split
  .next kd hk=>
   intro C T a S w hg hT hS r S' h;obtain⟨av,oy,h⟩:=Qa.1 h;obtain⟨kv,yU,h⟩:=Qa.1 h;obtain⟨s',dt,hr⟩:=L8 h;cases hr;have wI:=An hg hT oy;have wN:=An hg hT yU;have hZ:(execOp a.eval o).run P w=(do pure (Next.value (<-Builtin.delete_ c.argTypes o.type #[a.eval m,a.eval k])):Sem Next).run P w:=by
    simp[execOp,ho,resolve,hc,invoke,builtin,aN]
   cases av with
   |H_ b=>
    simp only[tx]at dt;cases ZO:iz kd kv with
    |false=>rw[ZO]at dt;cases dt
    |true=>
    rw[ZO]at dt;simp only[cond_true]at dt;have iQ:=fun e w=>E0 he hk wN ZO e w;unfold ya at dt;split at dt
    .next es clock hb=>
     obtain⟨r',hr,dt⟩:=Qa.1 dt;obtain⟨arr,l,hm⟩:=hS.A hb;obtain⟨g1,g2⟩:=JZ he hk wN hm hr;generalize hq:a.eval m=q at wI;cases wI with
     |I_ hd=>
     cases r' with
     |none=>
      cases dt;have CG:=DN (P:=P) (w:=w) (r:=(C.a b).Cr) (o:= .map arr clock) hm.f (by simp);have vF:World.u w (C.a b).Cr (.map arr clock)=w:=by
       unfold World.u;have:w.heap.setIfInBounds (C.a b).Cr (.map arr clock)=w.heap:=by
        apply Array.ext_getElem?;intro j;rw[Array.getElem?_setIfInBounds];split
        .next e=>subst e;rw[hm.f];simp[B0 hm.f]
        .rfl
       rw[this]
      rw[vF]at CG;refine⟨C,.value _,w,?_,C6.u hS,.J VR.A⟩;rw[hZ];simp[Builtin.delete_,qI,Ah he hu,hq,AN hm.f (by simp),iQ,(g1 rfl).1,CG]
     |some e=>
      cases dt;obtain⟨aM,hke,gz,i,me,hi,hmk,hmv,hmb,hf⟩:=g2 e rfl;have za:=hm.I hr hi hmb;obtain⟨CG,ht⟩:=Dm (P:=P) hS hb (.u C) (fun _ h=>h) rfl rfl (fun k n h=> .inl h) hm.f (by simp) za;refine⟨C,.value _,_,?_,ht,.J VR.A⟩;rw[hZ];simp[Builtin.delete_,qI,Ah he hu,hq,AN hm.f (by simp),iQ,hf,CG]
    .cases dt
   |Zn=>
    simp only[tx]at dt;cases ZO:iz kd kv with
    |false=>rw[ZO]at dt;cases dt
    |true=>
    rw[ZO]at dt;cases dt;have iQ:=fun e w=>E0 he hk wN ZO e w;generalize hq:a.eval m=q at wI;cases wI with
    |Zn=>
    refine⟨C,.value _,w,?_,C6.u hS,.J VR.A⟩;rw[hZ];simp[Builtin.delete_,qI,Ah he hu,hq,iQ]
   |_=>simp[tx]at dt
  .exact Ao
 .exact Ao
theorem zb {o:Oper} {t:TypeId} {x:Operand} (ho:o.op= .range t x):b5 E P o (l7 E t x):=by
 unfold l7;split
 .next hu=>
  intro C T a S w hg hT hS;refine⟨fun v h=>?_,fun ob g h=>?_⟩
  .obtain⟨av,oy,h⟩:=Qa.1 h;cases av<;>cases h
  .obtain⟨av,oy,h⟩:=Qa.1 h;have hv:=An hg hT oy;cases av<;>try (cases h;done)
   rename_i b
   cases h;generalize hq:a.eval x=q at hv;cases hv with
   |O hs=>
   refine⟨_,_,_,?_,C6.A hS _ (.stringIter _ 0) 0 (.aD hs (by rw[Bc])),FP 0⟩;simp[execOp,ho,Instr.range,Ah he hu,hq,World.A]
 .next k e hu=>
  intro C T a S w hg hT hS v S' h;obtain⟨av,oy,h⟩:=Qa.1 h;have hv:=An hg hT oy;cases av with
  |Zn=>
   cases h;generalize hq:a.eval x=q at hv;cases hv;refine⟨_,.value _,_,?_,C6.A hS _ (.mapIter none 0 #[] 0) 0 (.rX (by rw[Bc])),.J (FP 0)⟩;simp[execOp,ho,Instr.range,Ah he hu,hq,World.A]
  |H_ m=>
   simp only[rangeMap]at h;split at h
   .next es clock hb=>
    cases h;obtain⟨arr,l,hm⟩:=hS.A hb;generalize hq:a.eval x=q at hv;cases hv with
    |I_ hd=>
    have ZV:(C.fresh S w 0).a m=C.a m:=(FQ hS 0).a m hd;refine⟨_,.value _,_,?_,C6.A hS _ (.mapIter (some (C.a m).Cr) clock #[] clock) 0 ?_,.J (FP 0)⟩
    .simp[execOp,ho,Instr.range,Ah he hu,hq,AN hm.f (by simp),World.A]
    .have:=OR.Y1 (C:=C.fresh S w 0) (b:=S.a) (m:=m) (since:=clock) (Zz:=clock) (seen:=[]) (arr:= #[]) ((FQ hS 0).D m hd) (by simp) rfl (by rw[Bc]);rw[ZV]at this;exact this
   .cases h
  |_=>cases h
 .exact Ao
end
section
variable {E : a_} {P : Program}
theorem HT {α β γ:Type} (r:Result α) (f:α->World->Result β) (g:β->World->Result γ):(r.andThen f).andThen g=r.andThen fun a w=>(f a w).andThen g:=by
 cases r<;>rfl
theorem VE {n:Nat}:∀ {l:List Nat},ft n l=true↔n∈l
 | []=>by simp[ft]
 |k::l=>by
  simp only[ft];cases h:Nat.beq k n with
  |true=>have:=Qb h;subst this;simp
  |false=>
   have:=Nat.ne_of_beq_eq_false h;simp only[cond_false,Qk];rw[VE];constructor
   .exact .inr
   .grind
theorem Pd {seen:List Nat} {e:Y2}:∀ {es:List Y2},e∈YY seen es↔e∈es/\e.2.2∉seen
 | []=>by simp[YY]
 |a::l=>by
  simp only[YY];cases h:ft a.2.2 seen with
  |true=>
   have:=VE.1 h;simp only[cond_true];rw[Pd];constructor
   .grind
   .grind
  |false=>
   have hn:a.2.2∉seen:=fun hm=>by rw[VE.2 hm]at h;cases h
   simp only[cond_false,Qk];rw[Pd];constructor
   .grind
   .grind
theorem Ma {s:St} {r m since clock:Nat} {seen:List Nat} {e:Y2}:∀ {es:List Y2},e∈es->
 (AV.O [.bool true,e.1,e.2.1],s.B r (some (.Y1 (some m) since (seen++[e.2.2]) clock)))∈j2 s r m since clock seen es
 |a::l,h=>by
  simp only[j2];rcases Qk.1 h with rfl|h
  .exact Qh ..
  .exact Qg _ (Ma h)
theorem UL {s:ByteArray} {pos:Nat} {c:UInt8} (h:s.data[pos]?=some c) (hc:c.toNat<128):Utf8.decode s pos=(c.toNat,1):=by
 have hg:s.get! pos=c:=by
  have C8:pos<s.data.size:=by grind
  have:s.data[pos]! =c:=by grind
  exact this
 simp only[Utf8.decode,Nat.add_zero,hg];rw[if_pos (by omega)]
theorem OW {s:St} {v:AV} {r} (h:iF s v=some r):∃b,v= .Z b 0/\gW s b (s.heap.u b)=some r:=by
 unfold iF at h;split at h
 .exact⟨_,U,h⟩
 .cases h
theorem OX {s:St} {v:AV} {r} (h:iG s v=some r):∃b,v= .Z b 0/\jZ s b (s.heap.u b)=some r:=by
 unfold iG at h;split at h
 .exact⟨_,U,h⟩
 .cases h
theorem R3 {s:St} {v:AV} {r} (h:j3 s v=some r):∃b,v= .Z b 0/\mr s (s.heap.u b)=some r:=by
 unfold j3 at h;split at h
 .exact⟨_,U,h⟩
 .cases h
theorem Ul {o:Oper} {it:Operand} (ho:o.op= .next it true):b5 E P o (.I_ true (Ch E it) fun T s=>(Ch E it T).bind (iF s)):=by
 intro C T a S w hg hT hS v S' h;obtain⟨av,oy,h⟩:=Qa.1 h;have hv:=An hg hT oy;obtain⟨r,tj,h1⟩:=OW h;subst tj;replace h:=h1;clear h1;unfold gW at h;split at h
 .next b pos hb=>
  obtain⟨l,hl,h⟩:=Qa.1 h;obtain⟨hd,x,hx,hr⟩:=hS.a r _ hb;generalize hq:a.eval it=q at hv;cases hv with
  |H_ vG=>
  cases hr with
  | @aD _ s _ hs lb=>
  rw[lb]at hq;obtain⟨pre,jm,ZV⟩:=BQ hl;have hlen:s.size=pre.length+l.length:=by
   have:s.size=s.data.toList.length:=by simp
   rw[this,hs,jm];simp
  have dL:=AN (P:=P) (w:=w) hx (by simp);split at h
  .next c rest=>
   have uP:pos<s.size:=by simp at hlen;omega
   have hc:s.data[pos]?=some c:=by
    rw[<-Array.getElem?_toList,hs,jm,List.getElem?_append_right (by omega)];simp[ZV]
   have hstr:(⟨b.toArray⟩:ByteArray)=s:=by apply ByteArray.ext;apply Array.ext';simp[hs]
   cases mI:Nat.blt c.toNat 128 with
   |true=>
    rw[mI]at h;cases h;have C8:c.toNat<128:=by simpa[Nat.blt_eq]using mI
    obtain⟨CG,ht⟩:=Dm (P:=P) hS hb (.u C) (fun _ h=>h) rfl rfl (fun k n h=> .inl h) hx (by simp) (OR.aD (C:=C) (b:=r) (pos:=pos+1) hs lb);refine⟨C,.value _,_,?_,ht,.J (.J (x:= #[.bool true,goInt pos,.int .i32 c.toNat]) (.J (.bool true) (.J (.int _ _) (.one (.int _ _)))))⟩;simp[execOp,ho,Instr.next,hq,dL,uP,UL hc C8,CG]
   |false=>
    rw[mI]at h;simp only[cond_false,vv,hstr]at h;cases h;obtain⟨CG,ht⟩:=Dm (P:=P) hS hb (.u C) (fun _ h=>h) rfl rfl (fun k n h=> .inl h) hx (by simp) (OR.aD (C:=C) (b:=r) (pos:=pos+(Utf8.decode s pos).2) hs lb);refine⟨C,.value _,_,?_,ht,.J (.J (x:= #[.bool true,goInt pos,.int .i32 (Utf8.decode s pos).1]) (.J (.bool true) (.J (.int _ _) (.one (.int _ _)))))⟩;simp[execOp,ho,Instr.next,hq,dL,uP,CG]
  .cases h;have uP:¬pos<s.size:=by simp at hlen;omega
   refine⟨C,.value _,w,?_,C6.u hS,.J (.J (x:= #[.bool false]) (.one (.bool false)))⟩;simp[execOp,ho,Instr.next,hq,dL,uP]
 .cases h
theorem UE {α:Type} {p:α->Bool} {l:List α} (h:∀x∈l,p x=true):l.filter p=l:=List.filter_eq_self.2 h
theorem Ry {α:Type} {p:α->Bool} {l:List α} (h:∀x∈l,p x=false):l.filter p=[]:=by grind [List.filter_eq_nil_iff]
theorem Um {o:Oper} {it:Operand} (ho:o.op= .next it false):b5 E P o (.qU fun T s=>(Ch E it T).bind (iG s)):=by
 intro C T a S w hg hT hS ps h;obtain⟨av,oy,h⟩:=Qa.1 h;have hv:=An hg hT oy;obtain⟨r,tj,h1⟩:=OX h;subst tj;replace h:=h1;clear h1;unfold jZ at h;generalize hq:a.eval it=q at hv;cases hv with
 |H_ vG=>
 split at h
 .next hb=>
  cases h;obtain⟨hd,x,hx,hr⟩:=hS.a r _ hb;cases hr with
  |rX lb=>
  rw[lb]at hq;have dL:=AN (P:=P) (w:=w) hx (by simp);refine⟨_,Qp.2 U,C,_,w,?_,C6.u hS,.J (x:= #[.bool false]) (.one (.bool false))⟩;simp[execOp,ho,Instr.next,hq,dL]
 .next m since seen Zz hb=>
  obtain⟨hd,x,hx,hr⟩:=hS.a r _ hb;cases hr with
  | @Y1 _ _ _ _ nM hdm hgs vH lb=>
  rw[lb]at hq;have dL:=AN (P:=P) (w:=w) hx (by simp);unfold jY at h;split at h
  .next es clock tK=>
   obtain⟨arr,l,hm⟩:=hS.A tK;cases bu:(Nat.beq clock Zz&&Nat.beq clock since)with
   |false=>rw[bu]at h;cases h
   |true=>
   rw[bu]at h;simp only[Qf]at bu;have h1:=Qb bu.1;have h2:=Qb bu.2;subst h1;subst h2;simp only[cond_true]at h;have zc:=AN (P:=P) (w:=w) hm.f (by simp);have C8:=hm.j.I hm.i;have oV:∀e∈arr.toList,e.born<clock:=fun e he=>C8 e (hm.a.mem_iff.2 he);have ZI:(!nM.isEmpty&& !arr.isEmpty&&arr.all (fun e=>decide (e.born>=clock)))=false:=by
    cases ha:arr.toList with
    |nil=>
     have:arr= #[]:=Array.ext' (by simpa using ha);subst this;simp
    |cons e rest=>
     have:=oV e (by rw[ha];exact Qh ..);have hf:arr.all (fun e=>decide (e.born>=clock))=false:=by
      rw[<-Array.all_toList,ha];simp only[List.all_cons,Bool.and_eq_false_imp,decide_eq_true_eq];intro h;omega
     rw[hf];simp
   have mJ:∀e∈es,∀n,n=C.b m e.2.2->C.G m e.2.2->(nM.contains n=true↔e.2.2∈seen):=by
    rintro e _ n rfl gz;rw[Array.contains_iff_mem,<-Array.mem_toList_iff,vH,List.mem_map];constructor
    .rintro⟨k,hk,hkk⟩;have:=hm.inj _ _ (hgs k hk) gz hkk;rw[<-this];exact hk
    .intro hk;exact⟨_,hk,rfl⟩
   have hold:(arr.filter fun e=> !nM.contains e.born).filter (fun e=>decide (e.born<clock))=arr.filter fun e=> !nM.contains e.born:=by
    apply Array.ext';rw[Array.toList_filter];apply UE;intro e he;have:e∈arr.toList:=by
     rw[Array.toList_filter]at he;exact(List.mem_filter.1 he).1
    simp[oV e this]
   have cm:(arr.filter fun e=> !nM.contains e.born).filter (fun e=>decide (e.born>=clock))= #[]:=by
    apply Array.ext';rw[Array.toList_filter];apply Ry;intro e he;have:e∈arr.toList:=by
     rw[Array.toList_filter]at he;exact(List.mem_filter.1 he).1
    have:=oV e this;simp;omega
   generalize zd:(arr.filter fun e=> !nM.contains e.born)=left at hold cm;have pickk:∀n,0<n->∃k w1,(choose (.mapNext n)).run P w= .ok k w1/\k<n/\w1.heap=w.heap/\C6 C S w C S w1:=by
    intro n hn;by_cases hf:n<=1
    .exact⟨0,w,by simp[choose,Sem.run,Question.forced,hf],hn,U,C6.u hS⟩
    .refine⟨w.tape w.drawn (.mapNext n) % n, {w with drawn:=w.drawn+1},by simp[choose,Sem.run,Question.forced,hf,Question.cut],Nat.mod_lt _ hn,U,C6.B hS _⟩
   have zf:∀e∈left,∃q∈YY seen es,VR C q.1 e.key/\VR C q.2.1 e.val/\C.G m q.2.2/\e.born=C.b m q.2.2:=by
    intro e he;rw[<-zd,<-Array.mem_toList_iff,Array.toList_filter,List.mem_filter]at he;obtain⟨q,kN,np,hq3,hq4,hq5⟩:=hm.j.G (hm.a.mem_iff.2 he.1);refine⟨q,Pd.2 ⟨kN,fun hs=>?_⟩,np,hq3,hq4,hq5⟩;have:=(mJ q kN e.born hq5 hq4).2 hs;rw[this]at he;simp at he
   have hleft2:YY seen es≠ []->left≠ #[]:=by
    intro ZT je;obtain⟨q,hq⟩:=List.exists_mem_of_ne_nil _ ZT;obtain⟨kN,np⟩:=Pd.1 hq;obtain⟨e,he1,he2,he3,he4,he5⟩:=hm.j.u kN;have aM:e∈left:=by
     rw[<-zd,<-Array.mem_toList_iff,Array.toList_filter,List.mem_filter];refine⟨hm.a.mem_iff.1 he1,?_⟩;cases hc:nM.contains e.born with
     |false=>rfl
     |true=>exact absurd ((mJ q kN e.born he5 he4).1 hc) np
    rw[je]at aM;simp at aM
   have hZ:(execOp a.eval o).run P w=((choose (.mapNext ((if left.isEmpty then #[none]else #[])++left.map some).size)).run P w).andThen fun i w1=>
    (match((if left.isEmpty then #[none]else #[])++left.map some:Array (Option MapEntry))[i]? with
    |some (some e)=>((setObj (C.a r).Cr (.mapIter (some (C.a m).Cr) clock (nM.push e.born) clock)).run P w1).andThen fun _ w2=> .ok (Next.value (.tuple #[.bool true,e.key,e.val])) w2
    |some none=> .ok (Next.value (.tuple #[.bool false])) w1
    |none=> .halt (.stuck "Next: no such candidate") w1):=by
    simp only[execOp,ho,Instr.next,hq,Sem.run_bind,dL,Result.andThen_ok,zc,ZI,zd,hold,cm,Array.append_empty,Bool.false_eq_true,if_false];rw[HT]
    congr 1
    funext i w1
    generalize ((if left.isEmpty=true then #[none]else #[])++Array.map some left)[i]?=qq;rcases qq with _|_|e
    .rfl
    .rfl
    .simp[HT]
   rw[hZ];cases hla:YY seen es with
   |nil=>
    rw[hla]at h;cases h;have je:left= #[]:=by
     apply Array.ext';cases sd:left.toList with
     |nil=>rfl
     |cons e rest=>
      obtain⟨q,kN,_⟩:=zf e (by rw[<-Array.mem_toList_iff,sd];exact Qh ..);rw[hla]at kN;cases kN
    subst je;refine⟨_,Qp.2 U,C,_,w,?_,C6.u hS,.J (x:= #[.bool false]) (.one (.bool false))⟩;simp[choose,Sem.run,Question.forced]
   |cons q0 rest=>
    rw[hla]at h;have ZT:=hleft2 (by rw[hla];simp);have hemp:left.isEmpty=false:=by
     cases hi:left.isEmpty with
     |false=>rfl
     |true=>exact absurd (by simpa using hi) ZT
    rw[hemp];simp only[Bool.false_eq_true,if_false,Array.empty_append,Array.size_map];have uP:0<left.size:=Nat.pos_of_ne_zero fun h0=>ZT (by simpa using h0);obtain⟨k,w1,hk,uz,hheap,ht1⟩:=pickk _ uP;have gz:left[k]?=some left[k]:=Array.getElem?_eq_getElem uz;obtain⟨q,kN,np,hq3,hq4,hq5⟩:=zf left[k] (Array.getElem_mem uz);cases h;refine⟨_,Ma (by rw[<-hla];exact kN),?_⟩;have xI:w1.heap[(C.a r).Cr]?=some (.mapIter (some (C.a m).Cr) clock nM clock):=by rw[hheap];exact hx
    obtain⟨CG,ht⟩:=Dm (P:=P) ht1.c hb (.u C) (fun _ h=>h) rfl rfl (fun k n h=> .inl h) xI (by simp)
     (OR.Y1 (C:=C) (b:=r) (m:=m) (since:=clock) (Zz:=clock) (seen:=seen++[q.2.2]) (arr:=nM.push left[k].born) hdm (fun n hn=>by
      rcases List.mem_append.1 hn with hn|hn
      .exact hgs n hn
      .simp only[Qp]at hn;subst hn;exact hq4) (by simp[vH,hq5]) lb)
    refine⟨C,.tuple #[.bool true,left[k].key,left[k].val],_,?_,ht1.trans ht,.J (.J (.bool true) (.J np (.one hq3)))⟩;simp only[hk,Result.andThen_ok,Array.getElem?_map,gz,Option.map_some,CG]
  .cases h
 .cases h
theorem Hr {n:Nat} {e:Y2}:∀ {es:List Y2},dh n es=some e->e∈es/\e.2.2=n
 |a::l,h=>by
  simp only[dh]at h;cases hq:Nat.beq a.2.2 n with
  |true=>rw[hq]at h;cases h;exact⟨Qh ..,Qb hq⟩
  |false=>
   rw[hq]at h;obtain⟨h1,h2⟩:=Hr h;exact⟨Qg _ h1,h2⟩
theorem Mj {n:Nat}:∀ {l:List Nat},qZ l=some n->∃r,l=r++[n]
 | [],h=>by cases h
 | [a],h=>by cases h;exact⟨[],rfl⟩
 |a::b::l,h=>by
  obtain⟨r,hr⟩:=Mj (l:=b::l) h;exact⟨a::r,by rw[hr];rfl⟩
theorem zg {o:Oper} {it:Operand} (ho:o.op= .entry it):b5 E P o (.I' fun T s=>(Ch E it T).bind (j3 s)):=by
 intro C T a S w hg hT hS v h;obtain⟨av,oy,h⟩:=Qa.1 h;have hv:=An hg hT oy;obtain⟨r,tj,h1⟩:=R3 h;subst tj;replace h:=h1;clear h1;generalize hq:a.eval it=q at hv;cases hv with
 |H_ vG=>
 unfold mr at h;split at h
 .next m since seen Zz hb=>
  obtain⟨n,hn,h⟩:=Qa.1 h;obtain⟨hd,x,hx,hr⟩:=hS.a r _ hb;cases hr with
  | @Y1 _ _ _ _ nM hdm hgs vH lb=>
  rw[lb]at hq;have dL:=AN (P:=P) (w:=w) hx (by simp);unfold pc at h;split at h
  .next es clock tK=>
   obtain⟨arr,l,hm⟩:=hS.A tK;cases bu:Nat.beq clock Zz with
   |false=>rw[bu]at h;cases h
   |true=>
   rw[bu]at h;have h1:=Qb bu;obtain⟨e,he,h⟩:=Qa.1 h;cases h;subst h1;obtain⟨aM,Zc⟩:=Hr he;obtain⟨me,yS,g1,g2,g3,g4⟩:=hm.j.u aM;have zc:=AN (P:=P) (w:=w) hm.f (by simp);obtain⟨pre,jm⟩:=Mj hn;have vI:nM.back?=some (C.b m n):=by
    have:nM=(pre.map (C.b m)).toArray.push (C.b m n):=by apply Array.ext';simp[vH,jm]
    rw[this];simp
   have hfind:arr.find? (fun e=>e.born==C.b m n)=some me:=by
    cases hf:arr.find? (fun e=>e.born==C.b m n)with
    |none=>
     have:=Array.find?_eq_none.1 hf me (by rw[<-Array.mem_toList_iff];exact hm.a.mem_iff.1 yS);rw[g4,Zc]at this;simp at this
    |some m'=>
     have h1:=Array.find?_some hf;have h2:m'∈l:=hm.a.mem_iff.2 (Array.mem_toList_iff.2 (Array.mem_of_find?_eq_some hf));have h3:m'.born=C.b m n:=by simpa using h1
     rw[Bq hm.c h2 yS (by rw[h3,g4,Zc])]
   refine⟨.tuple #[me.key,me.val],?_,.J (.J g1 (.one g2))⟩;simp[execOp,ho,Instr.entry,hq,dL,vI,zc,hfind]
  .cases h
 .cases h
end
section
variable {E : a_} {P : Program} (he : Ym E P)
include he
omit he in
theorem wrapNil (t:TypeId) (a:Addr) (x y:ByteArray):Builtin.ssaWrapNilChk_ #[t] t #[.pointer (some a),.string x,.string y]=pure (.pointer (some a)):=rfl
theorem Lr {f g:FuncId} {t:TypeId} {p:Bool} {rc:Recv} (h:ny E none f t p=some (g,rc)) {C:Cx} {S:St} {w:World} (hS:YR C S w) {v r:AV} {x:Value} (hv:VR C v x)
 (hr:jc E S v rc=some r) (wr:Option String):g=f/\∃y,(receiverAt t (.val x) p wr).run P w= .ok y w/\VR C r y:=by
 unfold ny at h;split at h
 .
   split at h
   .next e hu heq=>
    cases h;simp only[jc,uF]at hr;cases hr;exact⟨U,x,by simp[receiverAt,Ah he hu,Place.get],hv⟩
   .contradiction
   .contradiction
   .cases h
 .split at h
  .next e hu heq=>
   cases h;simp only[jc,uF,Qe]at hr;obtain⟨a,y,rfl,hl,hy⟩:=H7 (P:=P) he hS hv hr;refine⟨U,y,?_,hy⟩;cases wr with
   |none=>simp[receiverAt,Ah he hu,Place.get,asAddr,hl]
   |some nm=>simp[receiverAt,Ah he hu,Place.get,wrapNil,strVal,asAddr,hl]
  .contradiction
  .next d xJ hu heq=>
   cases h;simp only[jc,uF]at hr;cases hr;refine⟨U,x,?_,hv⟩;simp only[receiverAt,Sem.run_bind,Ah he hu,Result.andThen_ok];cases d<;>first|rfl|exact absurd hu (by have:=xJ;simp_all)
  .contradiction
  .cases h
theorem Lp {f g:FuncId} {t:TypeId} {p:Bool} {rc:Recv} {n:Nat} (h:ny E (some n) f t p=some (g,rc)) {C:Cx} {S:St} {w:World} (hS:YR C S w) {v r:AV} {x:Value} (hv:VR C v x)
 (hr:jc E S v rc=some r) (wr:Option String):g=f/\∃a y,x= .pointer (some a)/\(receiverAt t (.var (a.add n)) p wr).run P w= .ok y w/\VR C r y:=by
 unfold ny at h;split at h
 .split at h
  .contradiction
  .next e m hu heq=>
   cases h;cases heq;simp only[jc,uF]at hr;obtain⟨q,hq,hr⟩:=Qa.1 hr;obtain⟨a,rfl,yG⟩:=Fa hv hq;obtain⟨a',y,ha',hl,hy⟩:=H7 (P:=P) he hS yG hr;cases ha';exact⟨U,a,y,U,by simp[receiverAt,Ah he hu,Place.get,hl],hy⟩
  .next d m xJ hu heq=>
   cases h;cases heq;simp only[jc,uF]at hr;obtain⟨q,hq,hr⟩:=Qa.1 hr;cases hr;obtain⟨a,rfl,yG⟩:=Fa hv hq;refine⟨U,a,_,U,?_,yG⟩;simp only[receiverAt,Sem.run_bind,Ah he hu,Result.andThen_ok];cases d<;>first|rfl|exact absurd hu (by have:=xJ;simp_all)
  .cases h
 .split at h
  .contradiction
  .cases h
  .contradiction
  .next d m xJ hu heq=>
   cases h;cases heq;simp only[jc,uF]at hr;obtain⟨q,hq,hr⟩:=Qa.1 hr;obtain⟨a,rfl,yG⟩:=Fa hv hq;obtain⟨a',y,ha',hl,hy⟩:=H7 (P:=P) he hS yG hr;cases ha';refine⟨U,a,y,U,?_,hy⟩;simp only[receiverAt,Sem.run_bind,Ah he hu,Result.andThen_ok];cases d<;>first|exact hl|exact absurd hu (by have:=xJ;simp_all)
  .cases h
theorem zh {t:TypeId} {i:TypeInfo} (hi:E.b.u t=some i) {name:String} {m:Method} (hm:i.methods.toList.find? (·.name==name)=some m) (w:World):
 (typeInfo t).run P w= .ok i w/\i.methods.find? (·.name==name)=some m:=
 ⟨BO he hi w,by rw[<-hm,Array.find?_toList]⟩
omit he in
theorem step_ok {st:FieldStep} {q:Nat×TypeId} (h:stepOf E st=some q):∃fields f k,st.deref=true/\CS E st.struct=some (.struct fields)/\fields[st.index]?=some f/\f.offset=q.1/\f.type=q.2/\
 Am.an E f.type=some (k+1):=by
 unfold stepOf at h;cases hd:st.deref with
 |false=>rw[hd]at h;cases h
 |true=>
 rw[hd]at h;simp only[cond_true]at h;split at h
 .next fields hu=>
  obtain⟨f,hf,h⟩:=Qa.1 h;split at h
  .next k hk=>
   cases h;rw[EN]at hf;exact⟨fields,f,k,U,hu,by simpa using hf,U,U,hk⟩
  .cases h
 .cases h
theorem Rw {st:FieldStep} {fields:Array Field} {f:Field} {k:Nat} (hd:st.deref=true) (hu:CS E st.struct=some (.struct fields)) (hf:fields[st.index]?=some f) (hs:Am.an E f.type=some (k+1))
 (t:TypeId) (a:Addr) (w:World):(follow [st] t (.val (.pointer (some a)))).run P w= .ok (f.type,.var (a.add f.offset)) w:=by
 simp[follow,Ah he hu,hf,hd,Place.get,asAddr,fieldPlace,A5 he hs]
theorem W0 {t:TypeId} {name:String} {g:FuncId} {rc:Recv} (h:methodOf E t name=some (g,rc)) {C:Cx} {S:St} {w:World} (hS:YR C S w) {v r:AV} {x:Value} (hv:VR C v x)
 (hr:jc E S v rc=some r) (fuel:Nat):∃y,(method (fuel+1) t x name).run P w= .ok (g,y) w/\VR C r y:=by
 unfold methodOf at h;obtain⟨i,hi,h⟩:=Qa.1 h;obtain⟨m,hm,h⟩:=Qa.1 h;obtain⟨hti,hfi⟩:=zh he hi hm w;split at h
 .next f p vJ vK=>
  obtain⟨hgf,y,hy,mb⟩:=Lr he h hS hv hr (if m.path.isEmpty then some ((name.splitOn ".").getLastD name)else none);subst hgf;refine⟨y,?_,mb⟩;unfold method;simp only[Sem.run_bind,hti,Result.andThen_ok,hfi,vJ,follow,Sem.run_pure,vK,hy]
 .next st f p vJ vK=>
  cases hd:st.deref with
  |true=>
   rw[hd]at h;simp only[cond_true]at h;obtain⟨q,hq,h⟩:=Qa.1 h;obtain⟨fields,fl,k,h1,h2,h3,h4,h5,h6⟩:=step_ok hq;obtain⟨hgf,a,y,rfl,hy,mb⟩:=Lp he h hS hv hr (if m.path.isEmpty then some ((name.splitOn ".").getLastD name)else none);subst hgf;refine⟨y,?_,mb⟩;unfold method;simp only[Sem.run_bind,hti,Result.andThen_ok,hfi,vJ,Rw he h1 h2 h3 h6,vK,h4,h5,hy,Sem.run_pure]
  |false=>
   rw[hd]at h;simp only[cond_false]at h;split at h
   .next pb fields hu=>
    obtain⟨fl,zi,h⟩:=Qa.1 h;cases oR:uE E fl.type with
    |true=>rw[oR]at h;cases h
    |false=>
    rw[oR]at h;simp only[cond_false]at h;obtain⟨n,hn,h⟩:=Qa.1 h;obtain⟨ag,hag,h⟩:=Qa.1 h;cases h;rw[EN]at zi;have hfl':fields[st.index]?=some fl:=by simpa using zi
    have hpart:∃cs y,x= .agg cs/\(part fl.type cs fl.offset).run P w= .ok y w/\VR C r y:=by
     cases hag':ag with
     |true=>
      subst hag';simp only[jc]at hr;cases v<;>try (cases hr;done)
      rename_i cs
      simp only[gN]at hr;cases hv with
      |agg Zh YO=>
      rename_i xs
      obtain⟨l,hl,hr⟩:=Qa.1 hr;cases hq:o_ n l with
      |none=>rw[hq]at hr;cases hr
      |some l'=>
      rw[hq]at hr;cases hr;obtain⟨y,hy,mb⟩:=FH (P:=P) he hag hn Zh YO (off:=fl.offset) (q:=l') (by unfold y_;rw[hl];exact hq) w;exact⟨xs,y,U,hy,mb⟩
     |false=>
      subst hag';simp only[jc]at hr;cases v<;>try (cases hr;done)
      rename_i cs
      simp only[fb]at hr;cases hv with
      |agg Zh YO=>
      rename_i xs
      obtain⟨y,hy,mb⟩:=Ez (P:=P) he hag Zh hr w;exact⟨xs,y,U,hy,mb⟩
    obtain⟨cs,y,rfl,hy,mb⟩:=hpart;refine⟨y,?_,mb⟩;have hund:∃d,CS E fl.type=some d/\∀e,d≠ .pointer e:=by
     unfold Am.j_ at hag;cases ov:CS E fl.type with
     |none=>rw[ov]at hag;simp at hag
     |some d=>
      refine⟨d,U,?_⟩;rintro e rfl;simp[uE,ov]at oR
    obtain⟨d,vG,xJ⟩:=hund;have hrecv:∀wr,(receiverAt fl.type (.val y) false wr).run P w= .ok y w:=by
     intro wr;simp only[receiverAt,Sem.run_bind,Ah he vG,Result.andThen_ok];cases d<;>first|rfl|exact absurd rfl (xJ _)
    unfold method;simp only[Sem.run_bind,hti,Result.andThen_ok,hfi,vJ,follow,Ah he hu,hfl',hd,Bool.false_eq_true,if_false,hy,Sem.run_pure,vK,hrecv]
   .cases h
 .cases h
omit he in
theorem UJ (P:Program):∃k,P.types.size+Made.depth=k+1:=⟨P.types.size+99,rfl⟩
omit he in
theorem Rc {o:Oper} {x:Operand} (ho:o.op= .nilCheck x):b5 E P o (.O fun T=>(Ch E x T).bind tB):=by
 intro C T a S w hg hT hS v h;obtain⟨av,oy,h⟩:=Qa.1 h;have hv:=An hg hT oy;have plain:∀y,a.eval x=y->(∀n f c,y≠ .func (.method n) f c)->y≠ .pointer none->y≠ .nilIface->y≠ .nilFunc->(execOp a.eval o).run P w= .ok (.value y) w:=by
  intro y hy h1 h2 h3 h4;simp only[execOp,ho,hy];first|rfl|(split<;>first|(exfalso;first|exact h2 rfl|exact h3 rfl|exact h4 rfl|exact h1 _ _ _ rfl)|rfl)
 generalize hq:a.eval x=q at hv;unfold tB at h;split at h
 .cases h;cases hv with
  |H_ hd=>exact⟨_,plain _ hq (by simp) (by simp) (by simp) (by simp),.H_ hd⟩
 .cases h;cases hv with
  |Zu hm ha Zh hc=>exact⟨_,plain _ hq (by simp) (by simp) (by simp) (by simp),.Zu hm ha Zh hc⟩
 .cases h;cases hv with
  |G' hf ha hb=>exact⟨_,plain _ hq (by simp) (by simp) (by simp) (by simp),.G' hf ha hb⟩
 .cases h;cases hv with
  |G' hf ha hb=>exact absurd rfl (hf _)
  |H' hd=>exact⟨_,plain _ hq (by simp) (by simp) (by simp) (by simp),.H' hd⟩
 .cases h
end
section
variable {E : a_} {P : Program} (he : Ym E P)
include he
theorem Ee {f:FuncId} (h:CI E f=true) (args:Array Value) (w:World):(callFunc f args).run P w= .ok (.enter f args) w:=by
 unfold CI at h;split at h
 .next fn hf=>
  have hp:=he.fn f fn hf;split at h
  .next b hb=>
   have hl:=he.c f fn hf;have ck:¬fn.name= "runtime.NumGoroutine" :=by simpa using hl
   simp[callFunc,hp,ck,hb]
  .cases h
 .cases hg:E.g f with
  |none=>rw[hg]at h;cases h
  |some g=>
   obtain⟨fn,b,hp,hb,hl⟩:=he.jw f g hg;have ck:¬fn.name= "runtime.NumGoroutine" :=by simpa using hl
   simp[callFunc,hp,ck,hb]
theorem HB {C:Cx} {S:St} {w:World} (hS:YR C S w) {name:String} {args rest:List AV} {v:AV} {f:FuncId} {x:Value} {xs:List Value} (hv:VR C v x) (ha:Y0 C args xs)
 (h:mv E S name args v=some (f,rest)):∃ys,(callMethod x name xs.toArray).run P w= .ok (.enter f ys) w/\Y0 C rest ys.toList:=by
 unfold mv at h;split at h
 .next t u=>
  obtain⟨m,hm,h⟩:=Qa.1 h;cases hb:CI E m.1 with
  |false=>rw[hb]at h;cases h
  |true=>
  rw[hb]at h;simp only[cond_true]at h;obtain⟨r,hr,h⟩:=Qa.1 h;cases h;cases hv with
  |Z hu=>
  obtain⟨k,hk⟩:=UJ P;obtain⟨y,hy,mb⟩:=W0 he (t:=t) (name:=name) (g:=m.1) (rc:=m.2) hm hS hu hr k;refine⟨#[y]++xs.toArray,?_,by simpa using Y0.J mb ha⟩;simp only[callMethod,Sem.run_bind];have:(program).run P w= .ok P w:=rfl;simp only[this,Result.andThen_ok,hk,hy,Ee he hb]
 .cases h
omit he in
theorem F2 (c:Call) (ρ:Operand->Value):c.args.map ρ=(c.args.toList.map ρ).toArray:=by apply Array.ext';simp
theorem Rf {o:Oper} {c:Call} {f:FuncId} (ho:o.op= .call c) (hc:c.callee= .value (.func f)) (hb:CI E f=true):
 b5 E P o (.H_ fun T _=>(CV E c.args.toList T).bind fun args=>some (f,args)):=by
 intro C T a S w hg hT hS g args h;obtain⟨as,has,h⟩:=Qa.1 h;cases h;refine⟨(c.args.toList.map a.eval).toArray,?_,by simpa using DI hg hT has⟩;simp only[execOp,ho,resolve,hc,Act.eval,Deferred.ofValue,Sem.run_bind,Sem.run_pure,Result.andThen_ok,invoke,Array.empty_append,Array.append_empty];rw[F2,Ee he hb]
omit he in
theorem zj {o:Oper} {c:Call} {x:Operand} (ho:o.op= .call c) (hc:c.callee= .value x):b5 E P o (.dN (Ch E x) (CV E c.args.toList)):=by
 intro C T a S w hg hT hS g args h1 h2;refine⟨a.eval x,(c.args.toList.map a.eval).toArray,An hg hT h1,by simpa using DI hg hT h2,?_⟩;simp only[execOp,ho,resolve,hc];rw[F2]
theorem Wk {o:Oper} {c:Call} {r:Operand} {name:String} (ho:o.op= .call c) (hc:c.callee= .invoke r name):
 b5 E P o (.H_ fun T s=>(CV E c.args.toList T).bind fun args=>(Ch E r T).bind (mv E s name args)):=by
 intro C T a S w hg hT hS g args h;obtain⟨as,has,h⟩:=Qa.1 h;obtain⟨v,hv,h⟩:=Qa.1 h;obtain⟨ys,hy,mb⟩:=HB he hS (An hg hT hv) (DI hg hT has) h;refine⟨ys,?_,mb⟩;simp only[execOp,ho,resolve,hc,Sem.run_bind,Sem.run_pure,Result.andThen_ok,invoke,F2];have h0:(#[a.eval r]++(c.args.toList.map a.eval).toArray)[0]?=some (a.eval r):=by simp
 have h1:(#[a.eval r]++(c.args.toList.map a.eval).toArray).extract 1 (#[a.eval r]++(c.args.toList.map a.eval).toArray).size=(c.args.toList.map a.eval).toArray:=by
  apply Array.ext';simp only[Array.toList_extract,Array.toList_append,List.toList_toArray,Array.size_append];simp;rw[List.take_of_length_le (by simp)]
 simp only[h0,h1];exact hy
omit he in
theorem zl {o:Oper} {c:Call} (ho:o.op= .defer c):b5 E P o (l8 E c):=by
 unfold l8;split
 .next x hc=>
  intro C T a S w hg hT hS d h;obtain⟨f,hf,h⟩:=Qa.1 h;obtain⟨as,has,h⟩:=Qa.1 h;have hv:=An hg hT hf;cases f with
  |G' fn fa ca=>
   simp only[nz]at h;cases hy:kk fn with
   |true=>rw[hy]at h;cases h
   |false=>
   rw[hy]at h;cases h;generalize hq:a.eval x=q at hv;cases hv with
   |H' hd=>cases hy
   |G' sg ha hb=>
   rename_i xs ys
   refine⟨⟨.fn fn ys,xs++(c.args.toList.map a.eval).toArray⟩,?_,.fn sg (by simpa using ha.A (DI hg hT has)) hb⟩;simp only[execOp,ho,resolve,hc,hq,Deferred.ofValue,Sem.run_bind,Sem.run_pure,Result.andThen_ok,F2]
  |_=>simp[nz]at h
 .exact Ao
omit he in
theorem Uk {o:Oper} {c:Call} (ho:o.op= .call c) (hc:c.callee= .builtin .recover):b5 E P o .G':=by
 intro C T a S w hg hT hS;simp[execOp,ho,resolve,hc,invoke,builtin]
omit he in
theorem Rx {f:AV->AV->Option AV} {G:Value->Value->Sem Value} (hf:∀(C:Cx) (w:World) v u y z r,VR C v y->VR C u z->f v u=some r->∃q,(G y z).run P w= .ok q w/\VR C r q) {C:Cx} {w:World}:
 ∀ {l:List AV} {xs:List Value} {v r:AV} {x:Value},Y0 C l xs->VR C v x->vu f l v=some r->∃q,(xs.foldlM G x).run P w= .ok q w/\VR C r q
 |_,_,v,r,x,.O,hv,h=>by cases h;exact⟨x,rfl,hv⟩
 |_::_,_,v,r,x,.J h1 t,hv,h=>by
  simp only[vu]at h;obtain⟨z,hz,h⟩:=Qa.1 h;obtain⟨q,hq,hr⟩:=hf C w _ _ _ _ z hv h1 hz;obtain⟨q',hq',gD⟩:=Rx hf (w:=w) t hr h;exact⟨q',by simp only[List.foldlM_cons,Sem.run_bind,hq,Result.andThen_ok,hq'],gD⟩
omit he in
theorem ok_max {o:Oper} {c:Call} {xs:List Operand} (ho:o.op= .call c) (hc:c.callee= .builtin .max) (iw:c.args.toList=xs):b5 E P o (maxC E vq xs):=by
 cases xs with
 |nil=>exact Ao
 |cons x l=>
  intro C T a S w hg hT hS v h;obtain⟨u,hu,h⟩:=Qa.1 h;obtain⟨r,hr,h⟩:=Qa.1 h;obtain⟨q,hq,hvq⟩:=Rx (P:=P) (f:=vq) (G:=Builtin.max2) (fun C w v u y z r hv hu h=>by
   unfold vq at h;split at h
   .cases h;cases hv;cases hu;exact⟨_,rfl,.int _ _⟩
   .cases h) (w:=w) (DI hg hT hr) (An hg hT hu) h
  refine⟨q,?_,hvq⟩;simp only[execOp,ho,resolve,hc,Sem.run_bind,Sem.run_pure,Result.andThen_ok,invoke,builtin,Builtin.max_,F2,iw,List.map_cons,hq]
omit he in
theorem ok_min {o:Oper} {c:Call} {xs:List Operand} (ho:o.op= .call c) (hc:c.callee= .builtin .min) (iw:c.args.toList=xs):b5 E P o (maxC E vr xs):=by
 cases xs with
 |nil=>exact Ao
 |cons x l=>
  intro C T a S w hg hT hS v h;obtain⟨u,hu,h⟩:=Qa.1 h;obtain⟨r,hr,h⟩:=Qa.1 h;obtain⟨q,hq,hvq⟩:=Rx (P:=P) (f:=vr) (G:=Builtin.min2) (fun C w v u y z r hv hu h=>by
   unfold vr at h;split at h
   .cases h;cases hv;cases hu;exact⟨_,rfl,.int _ _⟩
   .cases h) (w:=w) (DI hg hT hr) (An hg hT hu) h
  refine⟨q,?_,hvq⟩;simp only[execOp,ho,resolve,hc,Sem.run_bind,Sem.run_pure,Result.andThen_ok,invoke,builtin,Builtin.min_,F2,iw,List.map_cons,hq]
end
structure eo (E:a_) (P:Program):Prop where
 a:E.f=true->∀ {o:Oper} {c:Call} {f:FuncId},o.op= .call c->c.callee= .value (.func f)->CI E f=false->b5 E P o (mw E f (F' E f) c.args.toList)
 data:E.f=true->∀ {o:Oper} {c:Call} {x:Operand},o.op= .call c->c.callee= .builtin .unsafeSliceData->c.args.toList=[x]->b5 E P o (vw E o.type x)
 b:E.f=true->∀ {o:Oper} {c:Call} {t:TypeId} {ts:List TypeId} {x y:Operand},o.op= .call c->c.callee= .builtin .unsafeString->c.argTypes.toList=t::ts->c.args.toList=[x,y]->b5 E P o (pd E t x y)
section
variable {E : a_} {P : Program} (he : Ym E P) (hx : eo E P)
include he hx
theorem Ut {o:Oper} {c:Call} {b:Builtin} (ho:o.op= .call c) (hc:c.callee= .builtin b):b5 E P o (pJ E o.type b c.argTypes.toList c.args.toList):=by
 unfold pJ;split
 .next h1 h2=>exact Wu he ho hc h1 h2
 .next h1 h2=>exact ok_len he ho hc (by rw[h1];rfl) h2
 .next h1 h2=>exact ok_cap he ho hc (by rw[h1];rfl) h2
 .next h1 h2=>exact ok_copy he ho hc h1 h2
 .next h1 h2=>exact Ws he ho hc h1 h2
 .next h2=>
  cases he:E.f with
  |true=>exact hx.data he ho hc h2
  |false=>exact Ao
 .next h1 h2=>
  cases he:E.f with
  |true=>exact hx.b he ho hc h1 h2
  |false=>exact Ao
 .exact ok_max ho hc U
 .exact ok_min ho hc U
 .exact Uk ho hc
 .exact Ao
theorem ok_call {o:Oper} {c:Call} (ho:o.op= .call c):b5 E P o (YC E o.type c):=by
 unfold YC;split
 .next b hc=>exact Ut he hx ho hc
 .next f hc=>
  cases hb:CI E f with
  |true=>exact Rf he ho hc hb
  |false=>
   cases he:E.f with
   |true=>exact hx.a he ho hc hb
   |false=>exact Ao
 .next x _ hc=>exact zj ho hc
 .next r name hc=>exact Wk he ho hc
theorem vL (o:Oper):b5 E P o (ZW E o.type o.op):=by
 unfold ZW;split
 .next h=>exact Wi (.inl h)
 .next h=>exact Wi (.inr h)
 .next h=>exact ok_pick h
 .next h=>exact yw he h
 .next h=>exact ok_box h
 .next h=>exact yx he h
 .next h=>exact Nj he h
 .next h=>exact ok_load he h
 .next h=>exact yA he h
 .next h=>exact Rc h
 .next h=>exact ok_bin he h
 .next h=>exact ok_unOp h
 .next h=>exact ok_conv he h
 .next h=>exact OM he h
 .next h=>exact Re h
 .next h=>exact Un he h
 .next h=>exact OL he h
 .next h=>exact ok_slice he h
 .next h=>exact OO he h
 .next h=>exact yz he h
 .next h=>exact ON he h
 .next h=>exact y9 he h
 .next h=>exact Wj he h
 .next h=>exact OJ he (.inl h)
 .next h=>exact OJ he (.inr h)
 .next h=>exact zb he h
 .next it isString h=>
  cases isString with
  |true=>exact Ul h
  |false=>exact Um h
 .next h=>exact zg h
 .next h=>exact Wt he h
 .next h=>exact Up h
 .next h=>exact ok_call he hx h
 .next h=>exact zl h
 .next h=>exact yB h
 .exact Ao
end
end Am
