/- The abstract machine: its operations are the model's, second part. -/
import Derived.Test.YtfhimfcbphepeaaGreatDoorAmB
import Derived.Maps.AppendAt
set_option linter.unusedSectionVars false
set_option linter.unusedVariables false
set_option linter.unusedSimpArgs false
namespace Am
open Go
section
variable {E : Env} {P : Program} (he : CV E P)
theorem FR (z:Array Value) (n:Nat):(Builtin.zeroCells z n).size=n*z.size:=by simp[Builtin.zeroCells]
theorem za {C:Cx} {S:St} {w:World} (hS:W2 C S w) {eJ new:List AV} {Zw xs:List Value} (ho:Wc C eJ Zw) (hn:Wc C new xs) (hco:Cells eJ) (nE:Cells new)
 {e:TypeId} {sz len n nc:Nat} {z:Array Value} (hz:z.size=sz) (qp:0<sz) (zb:Zw.length=len*sz) (oW:xs.length=n*sz) (hnc:len+n<=nc):
 ∃C',Cu C S w C' (S.alloc (.cells (eJ++new) e true)) (w.drew.alloc (.cells (Zw.toArray++(xs.toArray++Builtin.zeroCells z (nc-(len+n)))) e))/\
  VR C' (.slice S.next 0 (len+n) sz none) (.slice (some ⟨w.heap.size,0,none⟩) (len+n) nc):=by
 have yW:=Cu.drew hS (w.drawn+1);have uu:(Zw.toArray++(xs.toArray++Builtin.zeroCells z (nc-(len+n)))).size=nc*sz:=by
  simp only[Array.size_append,List.size_toArray,FR,zb,oW,hz];rw[<-Nat.add_assoc,<-Nat.add_mul,<-Nat.add_mul]
  congr 1;omega
 refine⟨_,yW.trans (Dp yW.st (cs:=eJ++new) (vs:=Zw++xs) (ex:=(Builtin.zeroCells z (nc-(len+n))).toList) (ho.append hn) ?_ (hco.append nE) e true (fun h=>by cases h)),?_⟩
 .simp
 .exact Dx (cap:=none) ⟨uu.symm,qp⟩ hnc
theorem uD {C:Cx} {S:St} {w:World} (hS:W2 C S w) {b off len n c sz:Nat} {e:TypeId} {cs eJ new:List AV} {xs:List Value} {part:Bool} (hb:S.heap.get b=some (.cells cs e part))
 (hold:cut cs off (len*sz)=some eJ) (hn:Wc C new xs) (nE:Cells new) (oW:xs.length=n*sz) (ZM:(C.pl b).base+off+c*sz=(C.pl b).size) (qp:0<sz) (YY:len+n<=c):
 ∃C' w',(storeCells ⟨(C.pl b).Ci,(C.pl b).base+off+len*sz,none⟩ xs).run P w= .ok () w'/\Cu C S w C' ((S.put b none).alloc (.cells (eJ++new) e true)) w'/\
  VR C' (.slice S.next 0 (len+n) sz none) (.slice (some ⟨(C.pl b).Ci,(C.pl b).base+off,none⟩) (len+n) c):=by
 obtain⟨hd,x,hx,hr⟩:=hS.live b _ hb;cases hr with
 |cells WQ ha Xn Wt hf hp=>
 rename_i cc fr vs
 obtain⟨y,hy,hyd,zb,hco,_,j4⟩:=WQ.cut hold;have hyl:y.length=len*sz:=hy.length.trans zb;have hmul:(len+n)*sz<=c*sz:=Nat.mul_le_mul_right sz YY;rw[Nat.add_mul]at hmul;have ud:∀u∈xs,u.oneCell'=true:=by
  intro u hu;obtain⟨i,hi⟩:=List.getElem?_of_mem hu;have eW:i<new.length:=by
   have:=hn.length;rcases Nat.lt_or_ge i xs.length with h'|h'
   .omega
   .rw[List.getElem?_eq_none h']at hi;cases hi
  obtain⟨y',tn,hr⟩:=hn.get (Qi eW);rw[hi]at tn;cases tn;exact hr.qW (nE _ (List.getElem_mem eW))
 have C8:=DL (P:=P) xs (Ci:=(C.pl b).Ci) (off:=(C.pl b).base+off+len*sz) (i:=0) hx hf (by omega) ud;refine⟨C.Cy S.next ⟨(C.pl b).Ci,(C.pl b).base+off,(C.pl b).size⟩,_,by simpa using C8,?_,?_⟩
 .refine MJ hS hb _ _ ((C.pl b).base+off) (C.pl b).size ?_;have Zs:=Ext.Cy (C:=C) (b:=S.next) (p:=⟨(C.pl b).Ci,(C.pl b).base+off,(C.pl b).size⟩) (fun hd=>Nat.lt_irrefl _ (hS.fresh _ hd));have hxat:∃pre iR post,cc.toList=pre++y++iR++post/\pre.length=(C.pl b).base+off/\iR.length=xs.length:=by
   obtain⟨p1,q1,e1,e2⟩:=ha;obtain⟨p2,q2,e3,e4⟩:=j4;have hlen:=congrArg List.length e1;rw[e3]at hlen;simp only[Ql,Array.length_toList]at hlen;refine⟨p1++p2,(q2++q1).take xs.length,(q2++q1).drop xs.length,?_,by simp[e2,e4],?_⟩
   .rw[e1,e3,List.append_assoc _ (List.take _ _),List.take_append_drop];simp
   .rw[List.length_take];apply Nat.min_eq_left;simp only[Ql];omega
  obtain⟨pre,iR,post,X7,XV,sE⟩:=hxat;have eh:=F5 xs cc ((C.pl b).base+off+len*sz) (pre++y) iR post X7 (by simp[XV,hyl]) sE;refine .cells (vs:=y++xs) ((hy.append hn).mono Zs) ?_ ?_ ((hco Wt).append nE) (by rw[Do];exact hf) (fun h=>by cases h)
  .rw[AQ,eh];exact⟨pre,post,by simp,XV⟩
  .rw[AQ,Do];exact Xn
 .have:=VR.slice (C:=C.Cy S.next ⟨(C.pl b).Ci,(C.pl b).base+off,(C.pl b).size⟩) (b:=S.next) (off:=0) (len:=len+n) (sz:=sz) (cap:=none) (c:=c) (I3 _ _ _)
   (by simp only[oO,AQ];exact⟨by simpa using ZM,qp⟩) YY
  rw[AQ]at this;exact this
end
section
variable {E : Env} {P : Program} (he : CV E P)
theorem Vo (w:World):w.drew.heap=w.heap:=rfl
structure qx (P:Program) (e:TypeId) (sz VY n:Nat) (xs:List Value) (z:Array Value) (x:Value) (R:Sem Value) (w:World):Prop where
 fit:∀a len cap w',x= .slice a len cap->len+n<=cap->bw P a (len*sz) xs w w'->
  R.run P w= .ok (.slice a (len+n) cap) w'
 more:∀a len cap Zw,x= .slice a len cap->cap<len+n->small (len+n) VY=true->n≠0->(Builtin.firstCells sz len x).run P w.drew= .ok Zw w.drew->
  R.run P w= .ok (.slice (some ⟨w.heap.size,0,none⟩) (len+n) (grownCap w (len+n) cap e))
   (w.drew.alloc (.cells (Zw++(xs.toArray++Builtin.zeroCells z (grownCap w (len+n) cap e-(len+n)))) e))
theorem Sz {sz len n:Nat} {cap:Option Nat} {l:List AV} (h:fj sz len n cap l=true):match cap with|some c=>len+n<=c|none=>(len+n)*sz<=l.length:=by
 cases cap with
 |some c=>exact Qc h
 |none=>have:=Qc h;simpa using this
theorem UR {sz len n:Nat} {cap:Option Nat} {l:List AV} (h:fj sz len n cap l=false):∀c,cap=some c->c<len+n:=by grind [fj,Qd]
theorem JB {C:Cx} {S S':St} {w:World} (hS:W2 C S w) {e:TypeId} {sz VY n:Nat} (qp:sz≠0) {new:List AV} {xs:List Value} {z:Array Value} {v r:AV} {x:Value} {R:Sem Value}
 (hv:VR C v x) (hn:Wc C new xs) (nE:Cells new) (oW:xs.length=n*sz) (hz:z.size=sz) (hR:qx P e sz VY n xs z x R w)
 (h:CA S e sz VY new n v=some (r,S')):∃C' y w',R.run P w= .ok y w'/\Cu C S w C' S' w'/\VR C' r y:=by
 have none_:∀a len cap,x= .slice a len cap->len<=cap->n=0->R.run P w= .ok x w:=by
  intro a len cap hx YK h0;subst h0;have:xs=[]:=List.eq_nil_of_length_eq_zero (by simpa using oW);subst this;have:=hR.fit a len cap w hx YK (by cases a<;>simp[bw,storeCells]);rw[this,hx];rfl
 have bz:∀ {b:Bool} {A B:Option (AV×St)},(b=true->A=some (r,S')->∃C' y w',R.run P w= .ok y w'/\Cu C S w C' S' w'/\VR C' r y)->
  (b=false->B=some (r,S')->∃C' y w',R.run P w= .ok y w'/\Cu C S w C' S' w'/\VR C' r y)->(bif b then A else B)=some (r,S')->
  ∃C' y w',R.run P w= .ok y w'/\Cu C S w C' S' w'/\VR C' r y:=by
  intro b A B ha hb h;cases b with
  |true=>exact ha rfl h
  |false=>exact hb rfl h
 have n0:Nat.beq n 0=false->n≠0:=by rintro h rfl;cases h
 have more_:∀ {S1:St},Cu C S w C S1 w->∀ {eJ:List AV} {Zw:List Value} {a:Option Addr} {len cap:Nat},x= .slice a len cap->cap<len+n->small (len+n) VY=true->n≠0->
  Wc C eJ Zw->Cells eJ->Zw.length=len*sz->(Builtin.firstCells sz len x).run P w.drew= .ok Zw.toArray w.drew->
  r= .slice S1.next 0 (len+n) sz none->S'=S1.alloc (.cells (eJ++new) e true)->∃C' y w',R.run P w= .ok y w'/\Cu C S w C' S' w'/\VR C' r y:=by
  intro S1 t1 eJ Zw a len cap hx ZK XT nL ho hco zb hfc hr uE;subst hr;subst uE;have C8:=hR.more a len cap Zw.toArray hx ZK XT nL hfc;obtain⟨C',t,sv⟩:=za (e:=e) t1.st ho hn hco nE hz (Nat.pos_of_ne_zero qp) zb oW (grownCap_ge w (len+n) cap e);exact⟨C',_,_,C8,t1.trans t,sv⟩
 have blocks:∀ {b off len c:Nat} {cap:Option Nat} {a:Addr},VR C (.slice b off len sz cap) x->x= .slice (some a) len c->C.D b->len<=c->
  (a=⟨(C.pl b).Ci,(C.pl b).base+off,none⟩\/(c=0/\cap=some 0))->
  (match cap with|some 0=>len=0/\(c=0\/(C.pl b).base+off+c*sz=(C.pl b).size)|some k=>c=k|none=>(C.pl b).base+off+c*sz=(C.pl b).size)->n≠0->small (len+n) VY=true->
  YJ S e sz new n b off len cap (S.heap.get b)=some (r,S')->∃C' y w',R.run P w= .ok y w'/\Cu C S w C' S' w'/\VR C' r y:=by
  intro b off len c cap a aw hx hd YK ha ZK nL XT h;cases hb:S.heap.get b with
  |none=>rw[hb]at h;simp[YJ]at h
  |some ob=>
  rw[hb]at h;unfold YJ at h;split at h
  .next cs e0 sl heq=>
   cases heq;unfold ZG at h;obtain⟨l,hl,h⟩:=Qa.1 h;revert h;refine bz ?_ ?_
   .
     intro hf h;obtain⟨XU,tm,h⟩:=Qa.1 h;cases h;have hf':=Sz hf;have hw:bg S b (off+len*sz) new=some (S.put b (some (.cells XU e0 sl))):=by grind [bg,eG,gK]
     obtain⟨w',C8,t,_⟩:=LK (P:=P) hS hn nE hw;obtain⟨_,c',ty,fr,vs,u0,WQ,j4,Xn,_,_⟩:=hS.cells (b:=b) (cs:=cs) (by rw[hb];rfl);have hle:len+n<=c:=by
      cases cap with
      |some k=>grind
      |none=>
       simp only at hf' ZK;obtain⟨pre,kI,XV⟩:=B8 hl;have h1:=WQ.length;have h2:=j4.le;simp only[Array.length_toList]at h2;have h3:cs.length=off+l.length:=by rw[kI];simp[XV]
       have:(len+n)*sz<=c*sz:=by omega
       exact Nat.le_of_mul_le_mul_right this (Nat.pos_of_ne_zero qp)
     have ha':a=⟨(C.pl b).Ci,(C.pl b).base+off,none⟩:=by grind
     subst ha';refine⟨C,_,w',hR.fit _ _ _ w' hx hle ?_,t,?_⟩
     .grind [bw,Bm,Nat.add_assoc]
     .refine .slice hd ?_ hle;cases cap with
      |some k=>
       cases k with
       |zero=>simp only at hf';omega
       |succ k=>exact⟨ZK,by omega⟩
      |none=>exact⟨ZK,Nat.pos_of_ne_zero qp⟩
   .
     intro hf;refine bz ?_ (fun _ h=>by cases h);intro hc h;obtain⟨eJ,hold,h⟩:=Qa.1 h;cases h;have hcut:cut cs off (len*sz)=some eJ:=by unfold cut;rw[hl];exact hold
     have fp:Xl S sz (.slice b off len sz cap)=some (eJ,len):=by simp_all [Xl,Wp]
     obtain⟨Zw,_,ho,hco,zb,hfc⟩:=GV (P:=P) hS aw fp;by_cases mn:len+n<=c
     .have htail:dk cap=true:=by
       cases cap with
       |none=>rfl
       |some k=>
        cases k with
        |zero=>rfl
        |succ k=>have:=UR hf _ rfl;simp only at ZK;omega
      have hee:e=e0:=by simp_all
      subst hee;have ha':a=⟨(C.pl b).Ci,(C.pl b).base+off,none⟩/\(C.pl b).base+off+c*sz=(C.pl b).size:=by
       cases cap with
       |none=>exact⟨ha.resolve_right (fun h=>by cases h.2),ZK⟩
       |some k=>
        cases k with
        |zero=>grind
        |succ k=>cases htail
      obtain⟨rfl,ZM⟩:=ha';obtain⟨C',w',C8,t,sv⟩:=uD (P:=P) hS hb hcut hn nE oW ZM (Nat.pos_of_ne_zero qp) mn;have aU:XE S b cap=S.put b none:=by unfold XE;rw[htail];rfl
      rw[aU];exact⟨C',_,w',hR.fit _ _ _ w' hx mn (by simp only[bw,Bm];exact C8),t,sv⟩
     .have t1:Cu C S w C (XE S b cap) w:=by
       unfold XE;cases dk cap with
       |true=>exact Cu.kill hS b
       |false=>exact Cu.refl hS
      refine more_ t1 hx (by omega) XT nL ho hco zb (hfc w.drew (Vo w)) ?_ U;unfold XE;cases dk cap<;>rfl
  .cases h
 cases hv with
 |Ca a sx=>
  simp only[CA]at h;revert h;refine bz ?_ ?_
  .intro h0 h;cases h;have:=Qb h0;exact⟨C,_,w,none_ a 0 0 U (Qj _) this,Cu.refl hS,.Ca a sx⟩
  .intro h0;refine bz ?_ (fun _ h=>by cases h);intro XT h;cases h;refine more_ (Cu.refl hS) (Zw:=[]) (eJ:=[]) U (by have:=n0 h0;omega) (by simpa using XT) (n0 h0) .nil (fun _ h=>by cases h) (by simp) ?_ (by simp) (by simp);cases a with
   |none=>rfl
   |some a=>simp[Builtin.firstCells,loadCells,loadCellsFrom]
 |W1 a hl YK=>
  simp only[CA]at h;revert h;refine bz ?_ (fun _ h=>by cases h);intro h0 h;cases h;have:=Qb h0;exact⟨C,_,w,none_ _ _ _ U YK this,Cu.refl hS,.W1 a hl YK⟩
 |Cf hl hm ha WQ hc Wt YK=>
  simp only[CA]at h;revert h;refine bz ?_ (fun _ h=>by cases h);intro h0 h;cases h;have:=Qb h0;exact⟨C,_,w,none_ _ _ _ U YK this,Cu.refl hS,.Cf hl hm ha WQ hc Wt YK⟩
 |slice hd hc YK=>
  rename_i b off len Zc cap c
  simp only[CA]at h;revert h;refine bz ?_ ?_
  .intro h0 h;cases h;have:=Qb h0;exact⟨C,_,w,none_ _ _ _ U YK this,Cu.refl hS,.slice hd hc YK⟩
  .intro h0;refine bz ?_ (fun _ h=>by cases h);intro XT h;simp only[Qf]at XT;have hz':Zc=sz:=Qb XT.1;subst hz';refine blocks (.slice hd hc YK) U hd YK (.inl U) ?_ (n0 h0) XT.2 h;cases cap with
   |none=>exact hc.1
   |some k=>
    cases k with
    |zero=>exact absurd hc.2 (Nat.lt_irrefl _)
    |succ k=>exact hc.1
 |X1 sx hd hc=>
  rename_i b off Zc a c
  simp only[CA]at h;revert h;refine bz ?_ ?_
  .intro h0 h;cases h;have:=Qb h0;exact⟨C,_,w,none_ _ _ _ U (Qm _) this,Cu.refl hS,.X1 sx hd hc⟩
  .intro h0;refine bz ?_ (fun _ h=>by cases h);intro XT h;simp only[Qf]at XT;have hz':Zc=sz:=Qb XT.1;subst hz';refine blocks (.X1 sx hd hc) U hd (Qm _) ?_ ⟨rfl,hc.imp id (fun h=>h.2.1)⟩ (n0 h0) XT.2 h;rcases hc with h|h
   .exact .inr ⟨h,U⟩
   .exact .inl h.1
 |_=>simp[CA]at h
theorem JT (z:Array Value) (n:Nat):(Builtin.zeroCells z n).toList=(List.replicate n z.toList).flatten:=IM z n
include he
theorem Nr {t:TypeId} {z:AV} (e:zeroOf E t=some z):∃x,(∀w,(zeroValue t).run P w= .ok x w)/\(∀C,VR C z x):=by
 unfold zeroOf at e;cases hi:E.tys.get t with
 |none=>rw[hi]at e;cases e
 |some i=>
  rw[hi]at e;simp only at e;cases hz:i.zero with
  |none=>rw[hz]at e;cases e
  |some x=>
   rw[hz]at e;exact⟨x,fun w=>by simp[zeroValue,B6 he hi,hz],fun C=>Mn (EW e).1⟩
theorem Ub {o:Oper} {c:Call} {sT:TypeId} {ts:List TypeId} {x y:Operand} (ho:o.op= .call c) (hc:c.callee= .builtin .append) (fO:c.argTypes.toList=sT::ts) (eX:c.args.toList=[x,y]):
 Yq E P o (cM E sT ts.head? x y):=by
 unfold cM;split
 .next e hu=>
  split
  .next sz VY z Xn ei hz=>
   cases hb:(!(Nat.beq (WL z.cells) sz)||Nat.beq sz 0|| !(bK E ts.head?))with
   |true=>exact Ap
   |false=>
   simp only[cond_false];rw[Bool.or_eq_false_iff,Bool.or_eq_false_iff]at hb;have hzs:∀u,ts.head?=some u->∃d,CN E u=some d:=by
    intro u hu;have h2:=hb.2;rw[hu]at h2;simp only[bK,Bool.not_eq_false']at h2;cases hd:CN E u with
    |none=>rw[hd]at h2;cases h2
    |some d=>exact⟨d,rfl⟩
   replace hb:=hb.1;have uo:z.cells.length=sz:=by simp_all
   have qp:sz≠0:=by rintro rfl;simp at hb
   obtain⟨zv,tr,jO⟩:=Nr he hz;have hzsz:zv.cells.size=sz:=by have:=(jO ⟨fun _=>⟨0,0,0⟩,fun _=>none,fun _=>False,fun _ _=>0,fun _ _=>False,fun _=>False⟩).cells.length;simpa[uo]using this
   have l9:c.argTypes[0]?=some sT:=by rw[<-Array.getElem?_toList,fO];rfl
   have hts1:c.argTypes.toList.tail.head?=ts.head?:=by rw[fO];rfl
   have hts2:∀u,c.argTypes[1]?=some u->∃d,CN E u=some d:=by grind [List.head?_eq_getElem?]
   have XY:∀ρ:Operand->Value,c.args.map ρ= #[ρ x,ρ y]:=by
    intro ρ;apply Array.ext';simp[eX]
   have cy:∀(ρ:Operand->Value) (w:World),(execOp ρ o).run P w=(do pure (Next.value (<-Builtin.append_ c.argTypes o.type #[ρ x,ρ y])):Sem Next).run P w:=by
    intro ρ w;simp[execOp,ho,resolve,hc,invoke,builtin,XY]
   have slc:∀ {C:Cx} {S:St} {v:AV} {r:AV×St} {new:List AV} {n:Nat} {xv:Value},VR C v xv->CA S e sz VY new n v=some r->∃a l k,xv= .slice a l k:=by
    intro C S v r new n xv hv h;cases hv with
    |Ca|W1|Cf|slice|X1=>exact⟨_,_,_,rfl⟩
    |_=>simp[CA]at h
   cases hzb:X5 E ts.head? with
   |true=>
    simp only[cond_true];intro C T a S w hg hT hS v S' h;obtain⟨av,jq,h⟩:=Qa.1 h;obtain⟨bv,uF,h⟩:=Qa.1 h;obtain⟨p,hp,h⟩:=Qa.1 h;obtain⟨n,hn,hp⟩:=Qa.1 hp;cases hle:Nat.ble n 1048576 with
    |false=>rw[hle]at hp;cases hp
    |true=>
    rw[hle]at hp;cases hp;have hn':=Qc hle;obtain⟨k,hk⟩:=F9 (Ak hg hT uF) hn;have aw:=Ak hg hT jq;obtain⟨sa,sl,sc,zc⟩:=slc aw h;have hb4:n=0\/VY<=1048576:=by
     by_cases h0:n=0
     .exact .inl h0
     .right;have uG:Nat.beq n 0=false:=by cases n with|zero=>exact absurd rfl h0|succ n=>rfl
      cases av with
      |Ca=>
       simp only[CA,uG,cond_false]at h;cases XT:small n VY with
       |false=>rw[XT]at h;cases h
       |true=>exact(BW XT).2.2.2
      |slice b off len Zc cap=>
       simp only[CA,uG,cond_false]at h;cases XT:small (len+n) VY with
       |false=>rw[XT]at h;simp at h
       |true=>exact(BW XT).2.2.2
      |Cf cs l s cl=>simp[CA,uG]at h
      |_=>simp[CA]at h
    have hR:qx P e sz VY n (Builtin.zeroCells zv.cells n).toList zv.cells (a.eval x) (Builtin.append_ c.argTypes o.type #[a.eval x,a.eval y]) w:=by
     rw[hk];refine⟨fun a' len cap w' hx YY WT=>?_,fun a' len cap Zw hx ZK XT nL ho=>?_⟩
     .grind [IJ]
     .rw[hx];have:=Im he (k:=k) (ty:=o.type) l9 hu Xn ei (by rw[hts1];exact hzb) hn' tr (Zw:=Zw.toList) (by rw[<-hx];simpa using ho) ZK XT qp nL;simpa using this
    have hrep:=(jO C).cells.repeat n;obtain⟨C',q,w',C8,t,sv⟩:=JB (P:=P) hS qp aw (xs:=(Builtin.zeroCells zv.cells n).toList) (by rw[JT];exact hrep) (((jO C).Yv (De hz)).repeat n)
     (by simp[FR,hzsz]) hzsz hR h
    exact⟨C',_,w',by rw[cy];simp[C8],t,.value sv⟩
   |false=>
    simp only[cond_false];intro C T a S w hg hT hS v S' h;obtain⟨av,jq,h⟩:=Qa.1 h;obtain⟨bv,uF,h⟩:=Qa.1 h;obtain⟨p,hp,h⟩:=Qa.1 h;have aw:=Ak hg hT jq;obtain⟨xs,hl,WQ,Wt,oW,hfc⟩:=OA (P:=P) hS (Ak hg hT uF) hp;have hR:qx P e sz VY p.2 xs zv.cells (a.eval x) (Builtin.append_ c.argTypes o.type #[a.eval x,a.eval y]) w:=by
     refine⟨fun a' len cap w' hx YY WT=>?_,fun a' len cap Zw hx ZK XT nL ho=>?_⟩
     .rw[hx];exact JX he l9 hu Xn (by rw[hts1];exact hzb) hl (hfc w U) YY hts2 WT
     .rw[hx];have:=II he (ty:=o.type) l9 hu Xn ei (by rw[hts1];exact hzb) hl (hfc w.drew rfl) (Zw:=Zw.toList) (by rw[<-hx];simpa using ho) tr ZK XT hts2;simpa using this
    obtain⟨C',q,w',C8,t,sv⟩:=JB (P:=P) hS qp aw WQ Wt oW hzsz hR h;exact⟨C',_,w',by rw[cy];simp[C8],t,.value sv⟩
  .exact Ap
 .exact Ap
end
section
variable {E : Env} {P : Program}
theorem FY {C:Cx} {S:St} {w:World} (hS:W2 C S w) {v:AV} {x:Value} (hv:VR C v x) {sz:Nat} {p:List AV×Nat} (e:WJ S sz v=some p) {m:Nat} (hm:m<=p.2)
 {l:List AV} (hl:takeN (m*sz) p.1=some l):
 ∃xs,(Builtin.lenOf x).run P w= .ok p.2 w/\Wc C l xs/\Cells l/\xs.length=m*sz/\(Builtin.firstCells sz m x).run P w= .ok xs.toArray w:=by
 obtain⟨post,hp,pO⟩:=BK hl;unfold WJ at e;split at e
 .next b=>
  cases hb:Nat.beq sz 1 with
  |false=>rw[hb]at e;cases e
  |true=>
   rw[hb]at e;cases e;have:sz=1:=Qb hb;subst this;cases hv with
   | @str _ l' s hs=>
   obtain⟨b1,b2,b3⟩:=DE (C:=C) b;simp only at hp;rw[hp]at b1 b2;obtain⟨y,z,hyz,h1,h2⟩:=AF b1;refine⟨y,by simp[Builtin.lenOf,<-hs],h1,b2.sub.1,h1.length.trans pO,?_⟩;have hy:y=(b.take m).map fun c=>Value.int .u8 c.toNat:=by
    have hyl:y.length=m:=by rw[h1.length,pO,Nat.mul_one]
    rw[List.map_take,hyz,<-hyl];simp
   subst hs;rw[hy];simp[Builtin.firstCells];apply Array.ext';simp
 .obtain⟨a,c,vs,rfl,WQ,Wt,hlen,jo,oV⟩:=Eu hS hv e;rw[hp]at WQ Wt;obtain⟨y,z,rfl,h1,h2⟩:=AF WQ;refine⟨y,U,h1,Wt.sub.1,h1.length.trans pO,?_⟩;cases a with
  |none=>
   have:=oV rfl;simp only[List.append_eq_nil_iff]at this;rw[this.1];rfl
  |some ad=>
   refine G8 (fun j v hj=>jo ad U j v ?_) _ (h1.length.trans pO);have Co:j<y.length:=by
    rcases Nat.lt_or_ge j y.length with h|h
    .exact h
    .rw[List.getElem?_eq_none h]at hj;cases hj
   rw[List.getElem?_append_left Co];exact hj
theorem Tn {w w':World} {a:Addr} (h:(storeCells a []).run P w= .ok () w'):w'=w:=by
 simp[storeCells]at h;exact h.symm
theorem LS {C:Cx} {S S':St} {w:World} (hS:W2 C S w) {b off len sz:Nat} {cap:Option Nat} {x:Value} (hv:VR C (.slice b off len sz cap) x) {vs:List AV} {xs:List Value} (WQ:Wc C vs xs)
 (hc:Cells vs) (h0:len=0->vs=[]) (e:bg S b off vs=some S'):∃a c w',x= .slice (some a) len c/\(storeCells a xs).run P w= .ok () w'/\Cu C S w C S' w':=by
 obtain⟨w',C8,t,_⟩:=LK (P:=P) hS WQ hc e;cases hv with
 |slice hd ZK YK=>exact⟨_,_,w',rfl,C8,t⟩
 |X1 hxx hd ZK=>
  have:=h0 rfl;subst this;cases WQ;cases Tn C8;exact⟨_,_,_,U,by simp[storeCells],t⟩
variable (he : CV E P)
include he
omit he in
theorem Vw {o:Oper} {c:Call} {x y:Operand} (ho:o.op= .call c) (hc:c.callee= .builtin .copy) (eX:c.args.toList=[x,y]) (ρ:Operand->Value) (w:World):
 (execOp ρ o).run P w=(do pure (Next.value (<-Builtin.copy_ c.argTypes o.type #[ρ x,ρ y])):Sem Next).run P w:=by
 have XY:c.args.map ρ= #[ρ x,ρ y]:=by apply Array.ext';simp[eX]
 simp[execOp,ho,resolve,hc,invoke,builtin,XY]
theorem zd {o:Oper} {c:Call} {t:TypeId} {ts:List TypeId} {x y:Operand} (ho:o.op= .call c) (hc:c.callee= .builtin .copy) (fO:c.argTypes.toList=t::ts) (eX:c.args.toList=[x,y]):
 Yq E P o (oG E t x y):=by
 unfold oG;split
 .next e hu=>
  split
  .next sz Xn=>
   have l9:c.argTypes[0]?=some t:=by rw[<-Array.getElem?_toList,fO];rfl
   intro C T a S w hg hT hS v S' h;obtain⟨av,jq,h⟩:=Qa.1 h;obtain⟨bv,uF,h⟩:=Qa.1 h;obtain⟨p,hp,h⟩:=Qa.1 h;have aw:=Ak hg hT jq;have gz:=Ak hg hT uF;have C8:∀(ba:Option Addr) (dl k n:Nat) (xs:List Value) (w':World),a.eval x= .slice ba dl k->(Builtin.lenOf (a.eval y)).run P w= .ok n w->(Builtin.firstCells sz (Nat.min n dl) (a.eval y)).run P w= .ok xs.toArray w->
    (match ba with|some ad=>(storeCells ad xs).run P w= .ok () w'|none=>w'=w)->(execOp a.eval o).run P w= .ok (.value (goInt (Nat.min n dl:Nat))) w':=by
    intro ba dl k n xs w' hx hn hf WT;rw[Vw ho hc eX,hx];cases ba with
    |none=>subst WT;simp[Builtin.copy_,l9,Ad he hu,A6 he Xn,hn,hf]
    |some ad=>simp only at WT;simp[Builtin.copy_,l9,Ad he hu,A6 he Xn,hn,hf,WT]
   cases av with
   |slice b off len Zc cap=>
    simp only[copyV]at h;cases hb:Nat.beq Zc sz with
    |false=>rw[hb]at h;cases h
    |true=>
    rw[hb]at h;have:=Qb hb;subst this;simp only[cond_true]at h;obtain⟨l,hl,h⟩:=Qa.1 h;obtain⟨s',hs',h⟩:=Qa.1 h;cases h;obtain⟨xs,hlen,WQ,Wt,oW,hf⟩:=FY (P:=P) hS gz hp (Nat.min_le_left _ _) hl;obtain⟨ad,cc,w',hx,WT,t⟩:=LS (P:=P) hS aw WQ Wt (by
     rintro rfl;have:=(BK hl).choose_spec.2;simpa using this) hs'
    exact⟨C,_,w',C8 _ _ _ _ xs w' hx hlen hf WT,t,.value (.int _ _)⟩
   |Ca=>
    cases h;generalize hq:a.eval x=q at aw;cases aw with
    |Ca ba=>
    obtain⟨xs,hlen,WQ,Wt,oW,hf⟩:=FY (P:=P) hS gz hp (m:=Nat.min p.2 0) (Nat.min_le_left _ _) (l:=[]) (by rw[show Nat.min p.2 0=0 from Nat.min_zero _,Nat.zero_mul];rfl);have:xs=[]:=List.eq_nil_of_length_eq_zero (by simpa using oW);subst this;have:=C8 ba 0 0 _ [] w hq hlen hf (by cases ba<;>simp[storeCells]);exact⟨C,_,w,this,Cu.refl hS,.value (by simpa[goInt]using VR.int (C:=C) .i64 0)⟩
   |_=>simp[copyV]at h
  .exact Ap
 .exact Ap
omit he in
omit he in
theorem K7 {o:Option St} {r:AV×St} (h:dO o=some r):∃s,o=some s/\r=(.tuple [],s):=by
 cases o with
 |none=>cases h
 |some s=>cases h;exact⟨s,rfl,rfl⟩
omit he in
theorem VR.unit {C:Cx}:VR C (.tuple []) (.tuple #[]):= .tuple (by simpa using Wc.nil)
omit he in
theorem Dn {w:World} {r:Nat} {x o:Obj} (h:w.heap[r]?=some x) (hc:∀c e f,x≠ .cells c e f):(setObj r o).run P w= .ok () (World.CW w r o):=by
 unfold setObj;simp only[Sem.run,h];cases x with
 |cells c e f=>exact absurd rfl (hc c e f)
 |_=>rfl
end
theorem E4 {C C':Cx} {a:AV} {x y:Value} (h:bm a=true) (hx:VR C a x) (hy:VR C' a y):x=y:=by
 cases a with
 |int k n=>cases hx;cases hy;rfl
 |bool b=>cases hx;cases hy;rfl
 |str l=>
  cases hx with
  | @str _ _ s hs=>
  cases hy with
  | @str _ _ s' hs'=>
  have:s=s':=ByteArray.ext (Array.ext' (hs.trans hs'.symm));rw[this]
 |_=>cases h
theorem Ib {C C':Cx}:∀ {l:List AV} {xs ys:List Value},l.all bm=true->Wc C l xs->Wc C' l ys->xs=ys
 | [],_,_,_,.nil,.nil=>rfl
 |_::_,_,_,h,.cons h1 t1,.cons h2 t2=>by
  simp only[List.all_cons,Qf]at h;rw[E4 h.1 h1 h2,Ib h.2 t1 t2]
theorem Uy {C C':Cx} {a:AV} {x y:Value} (h:gN a=true) (hx:VR C a x) (hy:VR C' a y):x=y:=by
 cases a with
 |agg cs=>
  cases hx with
  |agg h1 _=>
  cases hy with
  |agg h2 _=>rw[Array.ext' (Ib h h1 h2)]
 |int k n=>exact E4 rfl hx hy
 |bool b=>exact E4 rfl hx hy
 |str l=>exact E4 rfl hx hy
 |_=>cases h
theorem uH (a b:ByteArray):(a==b)=(a.data==b.data):=rfl
theorem Dk {C:Cx} {a:AV} {x:Value} (h:bm a=true) (hx:VR C a x) (n:Nat):Instr.sameBits n x x=true:=by
 cases a with
 |int k n=>cases hx;simp[Instr.sameBits]
 |bool b=>cases hx;simp[Instr.sameBits]
 |str l=>cases hx;simp[Instr.sameBits,uH]
 |_=>cases h
theorem FU {C:Cx} (n:Nat):∀ {l:List AV} {xs:List Value},l.all bm=true->Wc C l xs->((xs.zip xs).all fun(x,y)=>Instr.sameBits n x y)=true
 | [],_,_,.nil=>rfl
 |_::_,_,h,.cons h1 t1=>by
  simp only[List.all_cons,Qf]at h;simp only[List.zip_cons_cons,List.all_cons,Qf];exact⟨Dk h.1 h1 n,FU n h.2 t1⟩
theorem Pg {C:Cx} {a:AV} {x:Value} (h:gN a=true) (hx:VR C a x) (n:Nat):Instr.sameBits (n+1) x x=true:=by
 cases a with
 |agg cs=>
  cases hx with
  |agg h1 _=>
   simp only[Instr.sameBits,Qf,beq_self_eq_true,true_and];exact FU n h h1
 |int k n=>exact Dk rfl hx _
 |bool b=>exact Dk rfl hx _
 |str l=>exact Dk rfl hx _
 |_=>cases h
theorem uI {P:Program} {x:Value} {w:World} (h:Instr.sameBits 10000 x x=true):(Instr.keyThatStays x x).run P w= .ok x w:=by
 simp[Instr.keyThatStays,h]
theorem Li:∀ {l:List TypeDesc} {a b:List AV} {r:Bool},Zz l a b=some r->(r=true↔a=b)
 | [],[],[],r,h=>by cases h;simp
 |d::l,a::x,b::y,r,h=>by
  simp only[Zz]at h;obtain⟨q,hq,h⟩:=Qa.1 h;obtain⟨e1,_⟩:=UZ hq;cases q with
  |true=>
   have:=Li (l:=l) h;have hab:=e1.1 rfl;rw[this];simp[hab]
  |false=>simp_all
 | [],[],_::_,_,h=>by simp[Zz]at h
 | [],_::_,_,_,h=>by simp[Zz]at h
 |_::_,[],_,_,h=>by simp[Zz]at h
 |_::_,_::_,[],_,h=>by simp[Zz]at h
theorem DC {kd:Kd} {a b:AV} {r:Bool} (h:dA kd a b=some r):r=true↔a=b:=by
 cases kd with
 |one d=>exact(UZ h).1
 |flat l=>
  cases a<;>cases b<;>simp only[dA]at h<;>try (cases h;done)
  rw[Li h];simp
theorem FG {kd:Kd} {k:AV}:∀ {es:List Xk} {r:Option Xk},cg kd k es=some r->
 (∀e∈es,∃b,dA kd k e.1=some b)/\(r=none->∀e∈es,dA kd k e.1=some false)/\(∀e,r=some e->e∈es/\dA kd k e.1=some true)
 | [],r,h=>by cases h;simp
 |e::es,r,h=>by
  simp only[cg]at h;obtain⟨b,hb,h⟩:=Qa.1 h;obtain⟨q,hq,h⟩:=Qa.1 h;obtain⟨h1,h2,h3⟩:=FG hq;refine⟨?_,?_,?_⟩
  .intro e' Zs;rcases Qk.1 Zs with rfl|Zs
   .exact⟨b,hb⟩
   .exact h1 e' Zs
  .grind
  .grind
theorem AZ {α β:Type} {f:α->β}:∀ {l:List α},(l.map f).Nodup->∀ {x y:α},x∈l->y∈l->f x=f y->x=y
 |a::l,h,x,y,hx,hy,e=>by
  simp only[List.map_cons,List.nodup_cons]at h;rcases Qk.1 hx with u0|u0
  .grind
  .rcases Qk.1 hy with tn|tn
   .grind
   .exact AZ h.2 u0 tn e
theorem EV {α β:Type} {f:α->β}:∀ {l:List α},(l.map f).Nodup->l.Nodup
 | [],_=>List.nodup_nil
 |a::l,h=>by
  simp only[List.map_cons,List.nodup_cons]at h;exact List.nodup_cons.2 ⟨fun hx=>h.1 (List.mem_map.2 ⟨a,hx,rfl⟩),EV h.2⟩
theorem W9.born {C:Cx} {b:Nat} {es:List Xk} {l:List MapEntry} (h:W9 C b es l):l.map (·.born)=(es.map (·.2.2)).map (C.gh b):=by
 induction h with
 |nil=>rfl
 |cons _ _ _ hn _ ih=>simp[hn,ih]
theorem W9.mem {C:Cx} {b:Nat} {es:List Xk} {l:List MapEntry} (h:W9 C b es l) {e:Xk} (he:e∈es):
 ∃m∈l,VR C e.1 m.key/\VR C e.2.1 m.val/\C.G b e.2.2/\m.born=C.gh b e.2.2:=by
 induction h with
 |nil=>cases he
 |cons hk hv hg hn _ ih=>grind
theorem W9.sF {C:Cx} {b:Nat} {es:List Xk} {l:List MapEntry} (h:W9 C b es l) {m:MapEntry} (hm:m∈l):
 ∃e∈es,VR C e.1 m.key/\VR C e.2.1 m.val/\C.G b e.2.2/\m.born=C.gh b e.2.2:=by
 induction h with
 |nil=>cases hm
 |cons hk hv hg hn _ ih=>
  rcases Qk.1 hm with rfl|hm
  .simp_all
  .grind
def b8 (n:Nat):List MapEntry->Nat->Option (Nat×Value)
 | [],_=>none
 |e::es,i=>if e.born=n then some (i,e.val)else b8 n es (i+1)
theorem Lf {n:Nat}:∀ {l:List MapEntry} {i:Nat},(∀m∈l,m.born≠n)->b8 n l i=none
 | [],_,_=>rfl
 |a::l,i,h=>by simp_all [b8,Qh,Lf,Qg]
theorem Le {n:Nat}:∀ {l:List MapEntry} {i:Nat},(∃m∈l,m.born=n)->∃j m,l[j]?=some m/\m.born=n/\b8 n l i=some (i+j,m.val)
 | [],_,h=>by obtain⟨_,h,_⟩:=h;cases h
 |a::l,i,h=>by
  by_cases ha:a.born=n
  .exact⟨0,a,U,ha,by simp[b8,ha]⟩
  .obtain⟨m,hm,hn⟩:=h;have lh:m∈l:=(Qk.1 hm).resolve_left (fun e=>ha (e▸hn));obtain⟨j,m',h1,h2,h3⟩:=Le (i:=i+1) ⟨m,lh,hn⟩;refine⟨j+1,m',by simpa using h1,h2,?_⟩;simp only[b8,if_neg ha,h3]
   congr 2;omega
section
variable {E : Env} {P : Program}
theorem KG {α:Type} (a:α):∀n,(rep a n).length=n
 |0=>rfl
 |n+1=>by simp[rep,KG a n]
theorem DM {α:Type} {w:World} {f:α->PUnit->Sem (ForInStep PUnit)}:∀ {l:List α},(∀x∈l,(f x ⟨⟩).run P w= .ok (.yield ⟨⟩) w)->(forIn l PUnit.unit f).run P w= .ok ⟨⟩ w
 | [],_=>by simp
 |a::l,h=>by simp_all [List.forIn_cons,Qh,DM,Qg]
variable (he : CV E P)
include he
theorem Dz {t:TypeId} {d:TypeDesc} (hu:CN E t=some d) (hs:Z8 d=true) (empty:Bool) (n:Nat) (x:Value) (w:World):(Instr.checkKey empty (n+1) t x).run P w= .ok () w:=by
 unfold Instr.checkKey;simp only[Sem.run_bind,Ad he hu,Result.andThen_ok];cases d<;>first|rfl|cases hs
theorem PE {t:TypeId} {kd:Kd} (hk:bQ E t=some kd) {C:Cx} {a:AV} {x:Value} (ha:VR C a x) (X2:cK kd a=true) (empty:Bool) (n:Nat) (w:World):
 (Instr.checkKey empty (n+2) t x).run P w= .ok () w:=by
 rcases DY hk with⟨fs,l,hu,hl,XV,rfl⟩|⟨m,e,d,hu,hd,hs,rfl⟩|⟨d,hu,hs,rfl⟩
 .cases ha<;>simp only[cK]at X2<;>try (cases X2;done)
  rename_i cs xs Wt WQ
  unfold Instr.checkKey;simp only[Sem.run_bind,Ad he hu,Result.andThen_ok];rw[<-Array.forIn_toList,DM]
  .rfl
  intro f hf;obtain⟨j,hj⟩:=List.getElem?_of_mem hf;obtain⟨hlen,YZ⟩:=FF hl;obtain⟨d,ye,hoff,hnm,fp⟩:=YZ j f hj;obtain⟨h1,h2⟩:=AW fp;have Co:j<cs.length:=by
   have:=(E2 X2).2;have hjl:j<fs.toList.length:=by grind
   omega
  obtain⟨y,hy,_⟩:=BY (P:=P) he fp WQ (Qi Co) w;have hoff':f.offset=j:=by omega
  simp only[ne_eq,hnm,not_false_eq_true,if_true,Sem.run_bind,hoff',hy,Result.andThen_ok,Dz he h1 h2,Sem.run_pure]
 .cases ha<;>simp only[cK]at X2<;>try (cases X2;done)
  rename_i cs xs Wt WQ
  unfold Instr.checkKey;simp only[Sem.run_bind,Ad he hu,Result.andThen_ok];rw[Std.Legacy.Range.forIn_eq_forIn_range',DM]
  .rfl
  intro j hj;have hjm:j<m:=by simpa[Std.Legacy.Range.size]using hj
  obtain⟨h1,h2⟩:=AW hd;have Co:j<cs.length:=by
   have:=(E2 X2).2;rw[KG]at this;omega
  obtain⟨y,hy,_⟩:=BY (P:=P) he hd WQ (Qi Co) w;simp only[Sem.run_bind,A6 he hs,Nat.mul_one,hy,Result.andThen_ok,Dz he h1 h2,Sem.run_pure]
 .grind [Dz]
theorem GX {t:TypeId} {kd:Kd} (hk:bQ E t=some kd) {C:Cx} {k:AV} {kx:Value} (ha:VR C k kx) {n:Nat} {w:World}:∀ {L:List MapEntry} {i:Nat},
 (∀m∈L,∃a b,VR C a m.key/\dA kd k a=some b/\(b=true↔m.born=n))->(Instr.findAsking t kx L i).run P w= .ok (b8 n L i) w
 | [],_,_=>rfl
 |m::L,i,h=>by
  obtain⟨a,b,h1,h2,h3⟩:=h m (Qh ..);have hb:(Op.equal t kx m.key).run P w= .ok b w:=UY he hk ha h1 h2 9998 w;unfold Instr.findAsking;simp only[Sem.run_bind,hb,Result.andThen_ok];cases b with
  |true=>simp[b8,h3.1 rfl]
  |false=>
   have:m.born≠n:=fun e=>by have:=h3.2 e;cases this
   simp only[Bool.false_eq_true,if_false,b8,this];exact GX hk ha fun m hm=>h m (Qg _ hm)
omit he in
theorem R5 {d:TypeDesc} {C C':Cx} {a b:AV} {x y:Value} (ha:VR C a x) (hb:VR C' b y) {r:Bool} (h:ss d a b=some r):Instr.sameNow d x y=some r:=by
 unfold ss at h;split at h
 .cases ha;cases hb;cases h;rename_i p q
  cases p<;>cases q<;>rfl
 .cases ha;cases hb;split at h
  .next hk=>cases h;subst hk;simp only[Instr.sameNow,if_true,Option.some.injEq];rw[Bool.eq_iff_iff];simp
  .cases h
 .cases h;cases ha with
  |str ha=>
  cases hb with
  |str hb=>
  simp only[Instr.sameNow,uH,AB,<-ha,<-hb,Option.some.injEq];rw[Bool.eq_iff_iff];simp
 .cases h
omit he in
theorem Jr {d:TypeDesc} {C:Cx} {k:AV} {kx:Value} (ha:VR C k kx) {n:Nat}:∀ {L:List MapEntry} {i:Nat},
 (∀m∈L,∃a b,VR C a m.key/\ss d k a=some b/\(b=true↔m.born=n))->Instr.findNow d kx L i=some (b8 n L i)
 | [],_,_=>rfl
 |m::L,i,h=>by
  obtain⟨a,b,h1,h2,h3⟩:=h m (Qh ..);unfold Instr.findNow;rw[R5 ha h1 h2];cases b with
  |true=>simp[b8,h3.1 rfl]
  |false=>
   have:m.born≠n:=fun e=>by have:=h3.2 e;cases this
   simp only[b8,this,if_false];exact Jr ha fun m hm=>h m (Qg _ hm)
omit he in
theorem NZ {d:TypeDesc} (hd:Z8 d=false) {kx:Value} {L:List MapEntry} {i:Nat} {r} (h:Instr.findNow d kx L i=some r):L=[]/\r=none:=by
 cases L with
 |nil=>cases h;exact⟨rfl,rfl⟩
 |cons m L=>
  exfalso;unfold Instr.findNow at h;have:Instr.sameNow d kx m.key=none:=by
   unfold Instr.sameNow;cases d<;>first|rfl|cases hd
  rw[this]at h;cases h
theorem HB {t:TypeId} {kd:Kd} (hk:bQ E t=some kd) {C:Cx} {k:AV} {kx:Value} (ha:VR C k kx) {n:Nat} {w:World} {L:List MapEntry}
 (h:∀m∈L,∃a b,VR C a m.key/\dA kd k a=some b/\(b=true↔m.born=n)):(Instr.findKey t kx L).run P w= .ok (b8 n L 0) w:=by
 have flat:∀ {d:TypeDesc},CN E t=some d->Z8 d=false->(Instr.findKey t kx L).run P w= .ok (b8 n L 0) w:=by
  intro d hu hs;simp only[Instr.findKey,Sem.run_bind,Ad he hu,Result.andThen_ok];split
  .next r hr=>
   obtain⟨rfl,rfl⟩:=NZ hs hr;rfl
  .exact GX he hk ha h
 rcases DY hk with⟨fs,l,hu,hl,XV,rfl⟩|⟨m,e,d,hu,hd,hs,rfl⟩|⟨d,hu,hs,rfl⟩
 .exact flat hu U
 .exact flat hu U
 .simp only[Instr.findKey,Sem.run_bind,Ad he hu,Result.andThen_ok];rw[Jr ha (d:=d) h];rfl
theorem Je {t:TypeId} {kd:Kd} (hk:bQ E t=some kd) {C:Cx} {k:AV} {kx:Value} (ha:VR C k kx) {w:World} {b clock:Nat} {es:List Xk} {arr:Array MapEntry} {l:List MapEntry}
 (hm:ic C b es clock w arr l) {r:Option Xk} (h:cg kd k es=some r):
 (r=none->(∀w',(Instr.findKey t kx arr.toList).run P w'= .ok none w')/\∀e∈es,k≠e.1)/\
 (∀e,r=some e->e∈es/\k=e.1/\C.G b e.2.2/\∃i m,arr[i]?=some m/\m.key=kx/\VR C e.2.1 m.val/\m.born=C.gh b e.2.2/\∀w',(Instr.findKey t kx arr.toList).run P w'= .ok (some (i,m.val)) w'):=by
 obtain⟨h1,h2,h3⟩:=FG h;refine⟨fun hr=>?_,fun e hr=>?_⟩
 .have Z4:=h2 hr;refine⟨fun w'=>?_,fun e Zs tt=>?_⟩
  .have Co:=hm.cT.nK hm.yc;have hb:∀m∈arr.toList,m.born≠clock:=fun m lh=>Nat.ne_of_lt (Co m (hm.perm.mem_iff.2 lh));rw[HB he hk ha (n:=clock) (fun m lh=>?_),Lf hb];obtain⟨e,Zs,h4,h5,h6,h7⟩:=hm.cT.sF (hm.perm.mem_iff.2 lh);exact⟨e.1,false,h4,Z4 e Zs,by simp[hb m lh]⟩
  .grind [DC]
 .obtain⟨Yw,kJ⟩:=h3 e hr;have tt:=(DC kJ).1 rfl;obtain⟨m,sE,h4,h5,h6,h7⟩:=hm.cT.mem Yw;have key:∀m'∈arr.toList,∃a q,VR C a m'.key/\dA kd k a=some q/\(q=true↔m'.born=C.gh b e.2.2):=by
   intro m' lh;obtain⟨e',Zs,g4,g5,g6,g7⟩:=hm.cT.sF (hm.perm.mem_iff.2 lh);obtain⟨q,hq⟩:=h1 e' Zs;refine⟨e'.1,q,g4,hq,?_⟩;have WT:(es.map (·.2.2)).Nodup:=by
    have:=hm.nodup;rw[hm.cT.born]at this;exact EV this
   rw[DC hq,tt,g7];constructor
   .intro hee;have:=AZ hm.keys.2 Yw Zs hee;rw[this]
   .intro hgg;have:=hm.inj _ _ g6 h6 hgg;rw[AZ WT Yw Zs this.symm]
  obtain⟨i,m',g1,g2,g3⟩:=Le (n:=C.gh b e.2.2) (l:=arr.toList) (i:=0) ⟨m,hm.perm.mem_iff.1 sE,h7⟩;have y9:m'=m:=by
   have:m'∈l:=hm.perm.mem_iff.2 (List.mem_of_getElem? g1);exact AZ hm.nodup this sE (g2.trans h7.symm)
  subst y9;have X2:gN e.1=true:=hm.keys.1 e Yw;refine⟨Yw,tt,h6,i,m',by simpa using g1,Uy X2 h4 (by rw[<-tt];exact ha),h5,h7,fun w'=>?_⟩;rw[HB he hk ha key,g3];simp
end
theorem U8 {α β:Type} {f:α->β}:∀ {l:List α},(l.map f).Nodup->∀ {i j:Nat} {a b:α},l[i]?=some a->l[j]?=some b->f a=f b->i=j
 | [],_,i,_,_,_,h,_,_=>by simp at h
 |c::l,hn,0,0,_,_,_,_,_=>rfl
 |c::l,hn,0,j+1,a,b,h1,h2,e=>by
  simp only[List.map_cons,List.nodup_cons]at hn;simp at h1 h2;subst h1;exact absurd (List.mem_map.2 ⟨b,List.mem_of_getElem? h2,e.symm⟩) hn.1
 |c::l,hn,i+1,0,a,b,h1,h2,e=>by
  simp only[List.map_cons,List.nodup_cons]at hn;simp at h1 h2;subst h2;exact absurd (List.mem_map.2 ⟨a,List.mem_of_getElem? h1,e⟩) hn.1
 |c::l,hn,i+1,j+1,a,b,h1,h2,e=>by
  simp only[List.map_cons,List.nodup_cons]at hn;exact congrArg (· +1) (U8 (f:=f) (a:=a) (b:=b) hn.2 (by simpa using h1) (by simpa using h2) e)
def XQ (n:Nat) (f:MapEntry->MapEntry) (e:MapEntry):MapEntry:=if e.born=n then f e else e
theorem IX {arr:Array MapEntry} (hn:(arr.toList.map (·.born)).Nodup) {i:Nat} {m:MapEntry} (hi:arr[i]?=some m) (f:MapEntry->MapEntry):
 (arr.modify i f).toList=arr.toList.map (XQ m.born f):=by
 apply List.ext_getElem?;intro j;rw[List.getElem?_map];simp only[Array.getElem?_toList,Array.getElem?_modify];split
 .next e=>subst e;rw[hi];simp[XQ]
 .next e=>
  cases hj:arr[j]? with
  |none=>rfl
  |some m'=>
   have:m'.born≠m.born:=fun hb=>e (U8 (f:=MapEntry.born) hn (a:=m) (b:=m') (by simpa using hi) (by simpa using hj) hb.symm);simp[XQ,this]
theorem S6 {arr:Array MapEntry} (hn:(arr.toList.map (·.born)).Nodup) {i:Nat} {m:MapEntry} (hi:arr[i]?=some m):
 (arr.eraseIdxIfInBounds i).toList=arr.toList.filter (fun e=>e.born !=m.born):=by
 have key:∀(l:List MapEntry) (i:Nat),(l.map (·.born)).Nodup->l[i]?=some m->l.eraseIdx i=l.filter (fun e=>e.born !=m.born):=by
  intro l;induction l with
  |nil=>intro i _ h;simp at h
  |cons a l ih=>
   intro i hn hi;simp only[List.map_cons,List.nodup_cons]at hn;cases i with
   |zero=>
    simp at hi;subst hi;simp only[List.eraseIdx_zero,List.tail_cons,List.filter_cons,bne_self_eq_false,Bool.false_eq_true,if_false];symm;rw[List.filter_eq_self];intro e he;simp only[bne_iff_ne,ne_eq];intro hb;exact hn.1 (List.mem_map.2 ⟨e,he,hb⟩)
   |succ i=>
    simp only[List.eraseIdx_cons_succ];have hi':l[i]?=some m:=by simpa using hi
    have:a.born≠m.born:=fun hb=>hn.1 (List.mem_map.2 ⟨m,List.mem_of_getElem? hi',hb.symm⟩);simp[this,ih i hn.2 hi']
 have Co:i<arr.size:=by
  rcases Nat.lt_or_ge i arr.size with h|h
  .exact h
  .rw[Array.getElem?_eq_none h]at hi;cases hi
 rw[Array.eraseIdxIfInBounds,dif_pos Co,Array.toList_eraseIdx];exact key _ _ hn (by simpa using hi)
theorem NQ {kd:Kd} {k:AV} {e:Xk}:isEq kd k e=true↔dA kd k e.1=some true:=by
 unfold isEq;cases h:dA kd k e.1 with
 |none=>simp
 |some b=>simp
theorem PT {C:Cx} {b:Nat} {kd:Kd} {k v:AV} {kx vx:Value} (hk:VR C k kx) (hv:VR C v vx) {n:Nat} (hi:∀j,C.G b j->C.gh b j=C.gh b n->j=n):
 ∀ {es:List Xk} {l:List MapEntry},W9 C b es l->(es.map (·.2.2)).Nodup->(∀e∈es,(isEq kd k e=true↔e.2.2=n))->
  W9 C b (kk kd k v es) (l.map (XQ (C.gh b n) fun e=> {e with key:=kx,val:=vx}))
 |_,_,.nil,_,_=> .nil
 |e::es,m::l,.cons h1 h2 h3 h4 t,hn,h=>by
  simp only[List.map_cons,List.nodup_cons]at hn;simp only[kk,List.map_cons];have hh:=h e (Qh ..);cases hq:isEq kd k e with
  |true=>
   have jr:=hh.1 hq;simp only[cond_true];have hm:m.born=C.gh b n:=by rw[h4];exact congrArg _ jr
   have cz:l.map (XQ (C.gh b n) fun e=> {e with key:=kx,val:=vx})=l:=by
    rw[List.map_congr_left (g:=id),List.map_id];intro m' lh;obtain⟨e',Zs,_,_,g3,g4⟩:=t.sF lh;have:m'.born≠C.gh b n:=by
     rw[g4];intro hb;have:=hi _ g3 hb;exact hn.1 (List.mem_map.2 ⟨e',Zs,this.trans jr.symm⟩)
    simp[XQ,this]
   rw[cz];simp only[XQ,hm,if_true];exact .cons hk hv h3 (hm.symm.trans h4) t
  |false=>
   have jr:e.2.2≠n:=fun he=>by rw[hh.2 he]at hq;cases hq
   simp only[cond_false];have hm:m.born≠C.gh b n:=by
    rw[h4];intro hb;exact jr (hi _ h3 hb)
   simp only[XQ,hm,if_false];exact .cons h1 h2 h3 h4 (PT hk hv hi t hn.2 fun e' Zs=>h e' (Qg _ Zs))
theorem QY {C:Cx} {b:Nat} {kd:Kd} {k:AV} {n:Nat} (hi:∀j,C.G b j->C.gh b j=C.gh b n->j=n):
 ∀ {es:List Xk} {l:List MapEntry},W9 C b es l->(es.map (·.2.2)).Nodup->(∀e∈es,(isEq kd k e=true↔e.2.2=n))->
  W9 C b (qc kd k es) (l.filter (fun e=>e.born !=C.gh b n))
 |_,_,.nil,_,_=> .nil
 |e::es,m::l,.cons h1 h2 h3 h4 t,hn,h=>by
  simp only[List.map_cons,List.nodup_cons]at hn;simp only[qc];have hh:=h e (Qh ..);cases hq:isEq kd k e with
  |true=>
   have jr:=hh.1 hq;simp only[cond_true];have hm:m.born=C.gh b n:=by rw[h4];exact congrArg _ jr
   have cz:l.filter (fun e=>e.born !=C.gh b n)=l:=by
    rw[List.filter_eq_self];intro m' lh;obtain⟨e',Zs,_,_,g3,g4⟩:=t.sF lh;simp only[bne_iff_ne,ne_eq,g4];intro hb;exact hn.1 (List.mem_map.2 ⟨e',Zs,(hi _ g3 hb).trans jr.symm⟩)
   simp only[List.filter_cons,hm,bne_self_eq_false,Bool.false_eq_true,if_false];rw[cz];exact t
  |false=>
   have jr:e.2.2≠n:=fun he=>by rw[hh.2 he]at hq;cases hq
   simp only[cond_false];have hm:(m.born !=C.gh b n)=true:=by
    simp only[bne_iff_ne,ne_eq];rw[h4];intro hb;exact jr (hi _ h3 hb)
   simp only[List.filter_cons,hm,if_true];exact .cons h1 h2 h3 h4 (QY hi t hn.2 fun e' Zs=>h e' (Qg _ Zs))
theorem MU {kd:Kd} {k v:AV}:∀ {es:List Xk},(∀e∈es,(isEq kd k e=true->k=e.1))->(kk kd k v es).map (·.1)=es.map (·.1)
 | [],_=>rfl
 |e::es,h=>by
  simp only[kk];cases hq:isEq kd k e with
  |true=>simp[h e (Qh ..) hq]
  |false=>simp[MU fun e' Zs=>h e' (Qg _ Zs)]
theorem kK {kd:Kd} {k:AV}:∀ {es:List Xk},(qc kd k es).Sublist es
 | []=>List.Sublist.refl _
 |e::es=>by
  simp only[qc];cases isEq kd k e with
  |true=>exact List.sublist_cons_self ..
  |false=>exact(kK (es:=es)).cons_cons _
theorem PH (n:Nat) (kx vx:Value) (m:MapEntry):(XQ n (fun e=> {e with key:=kx,val:=vx}) m).born=m.born:=by
 unfold XQ;split<;>rfl
theorem Iw {es:List Xk}:yz es↔(∀k∈es.map (·.1),gN k=true)/\(es.map (·.1)).Nodup:=by
 unfold yz;constructor
 .rintro⟨h1,h2⟩;refine⟨fun k hk=>?_,h2⟩;obtain⟨e,he,rfl⟩:=List.mem_map.1 hk;exact h1 e he
 .rintro⟨h1,h2⟩;exact⟨fun e he=>h1 _ (List.mem_map.2 ⟨e,he,rfl⟩),h2⟩
theorem ic.Zh {C:Cx} {b clock:Nat} {es:List Xk} {w:World} {arr:Array MapEntry} {l:List MapEntry} (h:ic C b es clock w arr l):(es.map (·.2.2)).Nodup:=by
 have:=h.nodup;rw[h.cT.born]at this;exact EV this
theorem ic.iV {C:Cx} {b clock:Nat} {es:List Xk} {w:World} {arr:Array MapEntry} {l:List MapEntry} (h:ic C b es clock w arr l):(arr.toList.map (·.born)).Nodup:=
 ((h.perm.map _).nodup_iff).1 h.nodup
theorem ic.upd {C:Cx} {b clock:Nat} {es:List Xk} {w:World} {arr:Array MapEntry} {l:List MapEntry} (h:ic C b es clock w arr l) {kd:Kd} {k v:AV} {kx vx:Value} (hk:VR C k kx) (hv:VR C v vx)
 {e:Xk} (hr:cg kd k es=some (some e)) {i:Nat} {m:MapEntry} (hi:arr[i]?=some m) (hb:m.born=C.gh b e.2.2):
 OR C b (.map (kk kd k v es) clock) (.map (arr.modify i fun e=> {e with key:=kx,val:=vx}) clock):=by
 obtain⟨h1,h2,h3⟩:=FG hr;obtain⟨Yw,kJ⟩:=h3 e rfl;have tt:=(DC kJ).1 rfl;obtain⟨_,_,_,_,eg,_⟩:=h.cT.mem Yw;have heq:∀e'∈es,(isEq kd k e'=true↔e'.2.2=e.2.2):=by
  intro e' Zs;rw[NQ];constructor
  .intro hq;have:=(DC hq).1 rfl;rw[AZ h.keys.2 Zs Yw (this.symm.trans tt)]
  .intro hq;rw[AZ h.Zh Zs Yw hq];exact kJ
 have hkeys:(kk kd k v es).map (·.1)=es.map (·.1):=MU fun e' _ hq=>(DC (NQ.1 hq)).1 rfl;refine .map (l:=l.map (XQ (C.gh b e.2.2) fun e=> {e with key:=kx,val:=vx})) ?_ (PT hk hv (fun j hj hg=>h.inj _ _ hj eg hg) h.cT h.Zh heq)
  (by rw[Iw,hkeys,<-Iw];exact h.keys) ?_ h.yc h.stamps h.inj
 .rw[IX h.iV hi,hb];exact h.perm.map _
 .rw[List.map_map];have:((·.born)∘XQ (C.gh b e.2.2) fun e=> {e with key:=kx,val:=vx}:MapEntry->Nat)=(·.born):=by
   funext m;exact PH _ _ _ _
  rw[this];exact h.nodup
theorem ic.del {C:Cx} {b clock:Nat} {es:List Xk} {w:World} {arr:Array MapEntry} {l:List MapEntry} (h:ic C b es clock w arr l) {kd:Kd} {k:AV}
 {e:Xk} (hr:cg kd k es=some (some e)) {i:Nat} {m:MapEntry} (hi:arr[i]?=some m) (hb:m.born=C.gh b e.2.2):
 OR C b (.map (qc kd k es) clock) (.map (arr.eraseIdxIfInBounds i) clock):=by
 obtain⟨h1,h2,h3⟩:=FG hr;obtain⟨Yw,kJ⟩:=h3 e rfl;have tt:=(DC kJ).1 rfl;obtain⟨_,_,_,_,eg,_⟩:=h.cT.mem Yw;have heq:∀e'∈es,(isEq kd k e'=true↔e'.2.2=e.2.2):=by
  intro e' Zs;rw[NQ];constructor
  .intro hq;have:=(DC hq).1 rfl;rw[AZ h.keys.2 Zs Yw (this.symm.trans tt)]
  .intro hq;rw[AZ h.Zh Zs Yw hq];exact kJ
 refine .map (l:=l.filter (fun e'=>e'.born !=C.gh b e.2.2)) ?_ (QY (fun j hj hg=>h.inj _ _ hj eg hg) h.cT h.Zh heq) ?_ ?_ h.yc h.stamps h.inj
 .rw[S6 h.iV hi,hb];exact h.perm.filter _
 .exact⟨fun e' Zs=>h.keys.1 e' (kK.subset Zs),(kK.map _).nodup h.keys.2⟩
 .exact((List.filter_sublist).map _).nodup h.nodup
def Cx.Y7 (C:Cx) (b n:Nat):Cx:= {C with gh:=fun c k=>if c=b/\k=n then n else C.gh c k,G:=fun c k=>C.G c k\/(c=b/\k=n)}
theorem Ext.Y7 {C:Cx} {b n:Nat} (h:¬C.G b n):Ext C (C.Y7 b n):=
 ⟨fun _ h=>h,fun _ _=>rfl,fun _ _ h=>h,fun _ _ h=> .inl h,fun c k hk=>by
  have:¬(c=b/\k=n):=by rintro⟨rfl,rfl⟩;exact h hk
  simp[Cx.Y7,this],fun _ h=>h⟩
theorem ic.add {C:Cx} {b clock:Nat} {es:List Xk} {w:World} {arr:Array MapEntry} {l:List MapEntry} (h:ic C b es clock w arr l) {k v:AV} {kx vx:Value} (hk:VR C k kx) (hv:VR C v vx)
 (X2:gN k=true) (Z4:∀e∈es,k≠e.1):
 ¬C.G b clock/\OR (C.Y7 b clock) b (.map (es++[(k,v,clock)]) (clock+1)) (.map (arr.push {key:=kx,val:=vx,born:=clock}) (clock+1)):=by
 have mq:¬C.G b clock:=fun hg=>Nat.lt_irrefl _ (h.stamps _ hg);have e:=Ext.Y7 mq;have hgh:(C.Y7 b clock).gh b clock=clock:=by simp[Cx.Y7]
 have zf:∀ {es:List Xk} {l:List MapEntry},W9 C b es l->W9 (C.Y7 b clock) b (es++[(k,v,clock)]) (l++[{key:=kx,val:=vx,born:=clock}]):=by
  intro es l hh;induction hh with
  |nil=>exact .cons (hk.mono e) (hv.mono e) (.inr ⟨rfl,rfl⟩) hgh.symm .nil
  |cons h1 h2 h3 h4 _ ih=>exact .cons (h1.mono e) (h2.mono e) (.inl h3) (h4.trans (e.gh _ _ h3).symm) ih
 have Co:=h.cT.nK h.yc;refine⟨mq,.map (l:=l++[{key:=kx,val:=vx,born:=clock}]) ?_ (zf h.cT) ⟨?_,?_⟩ ?_ ?_ ?_ ?_⟩
 .rw[Array.toList_push];exact h.perm.append_right _
 .intro e' Zs;rcases List.mem_append.1 Zs with Zs|Zs
  .exact h.keys.1 e' Zs
  .simp only[Qn]at Zs;subst Zs;exact X2
 .rw[List.map_append,List.nodup_append];refine⟨h.keys.2,by simp,?_⟩;intro a ha b' ZL hab;simp only[List.map_cons,List.map_nil,Qn]at ZL;obtain⟨e',Zs,rfl⟩:=List.mem_map.1 ha;exact Z4 e' Zs (by rw[hab,ZL])
 .rw[List.map_append,List.nodup_append];refine⟨h.nodup,by simp,?_⟩;intro a ha b' ZL hab;simp only[List.map_cons,List.map_nil,Qn]at ZL;obtain⟨m,hm,rfl⟩:=List.mem_map.1 ha;have:=Co m hm;omega
 .rintro n (hg|⟨_,rfl⟩)
  .rw[e.gh _ _ hg];exact Nat.lt_succ_of_lt (h.yc n hg)
  .rw[hgh];exact Nat.lt_succ_self _
 .rintro n (hg|⟨_,rfl⟩)
  .exact Nat.lt_succ_of_lt (h.stamps n hg)
  .exact Nat.lt_succ_self _
 .rintro n m (hg|⟨_,rfl⟩) (eU|⟨_,rfl⟩) hh
  .rw[e.gh _ _ hg,e.gh _ _ eU]at hh;exact h.inj n m hg eU hh
  .rw[e.gh _ _ hg,hgh]at hh;have:=h.yc n hg;omega
  .rw[e.gh _ _ eU,hgh]at hh;have:=h.yc m eU;omega
  .rfl
section
variable {E : Env} {P : Program} (he : CV E P)
def uJ (C:Cx):Option Xk->Option (Nat×Value)->Prop
 |none,none=>True
 |some e,some p=>VR C e.2.1 p.2
 |_,_=>False
theorem kd_len {kd:Kd} {k:AV} (h:cK kd k=true):gN k=true:=RS h
include he
theorem DB {t:TypeId} {kd:Kd} (hk:bQ E t=some kd) {C:Cx} {a:AV} {x:Value} (ha:VR C a x) (X2:cK kd a=true) (empty:Bool) (w:World):
 (Instr.checkKey empty 10000 t x).run P w= .ok () w:=PE he hk ha X2 empty 9998 w
theorem TN {o:Oper} {t:TypeId} {x k:Operand} {ok:Bool} (ho:o.op= .lookup t x k ok):Yq E P o (gO E t x k ok):=by
 unfold gO;split
 .next key elem hu=>
  split
  .next z kd hz hk=>
   intro C T a S w hg hT hS v h;obtain⟨av,jq,h⟩:=Qa.1 h;obtain⟨kv,hkv,h⟩:=Qa.1 h;have aw:=Ak hg hT jq;have sG:=Ak hg hT hkv;unfold bo at h;cases X2:cK kd kv with
   |false=>rw[X2]at h;cases h
   |true=>
   rw[X2]at h;simp only[cond_true]at h;obtain⟨es,yV,h⟩:=Qa.1 h;obtain⟨r,hr,h⟩:=Qa.1 h;cases h;obtain⟨zv,tr,jO⟩:=Nr he hz;have nN:=fun e w=>DB he hk sG X2 e w;have fin:∀(arr:Array MapEntry) (q:Option (Nat×Value)),(Instr.findKey key (a.eval k) arr.toList).run P w= .ok q w->
    uJ C r q->
    ∃y,((do
     Instr.checkKey arr.isEmpty 10000 key (a.eval k)
     let(v,qX)<-match<-Instr.findKey key (a.eval k) arr.toList with
      |some (_,v)=>pure (v,true)
      |none=>pure (<-zeroValue elem,false)
     pure (if ok then .tuple #[v,.bool qX]else v)):Sem Value).run P w= .ok y w/\VR C (mQ ok z r) y:=by
    intro arr q hq sH;simp only[Sem.run_bind,nN,Result.andThen_ok,hq];cases r with
    |none=>
     cases q with
     |some p=>exact sH.elim
     |none=>
      simp only[Sem.run_bind,tr,Result.andThen_ok,Sem.run_pure];cases ok with
      |true=>exact⟨_,rfl,.tuple (by simpa using Wc.cons (jO C) (Wc.one (.bool false)))⟩
      |false=>exact⟨_,rfl,jO C⟩
    |some e=>
     cases q with
     |none=>exact sH.elim
     |some p=>
      obtain⟨i,pv⟩:=p;simp only[Sem.run_pure,Result.andThen_ok];cases ok with
      |true=>exact⟨_,rfl,.tuple (by simpa using Wc.cons sH (Wc.one (.bool true)))⟩
      |false=>exact⟨_,rfl,sH⟩
   cases av with
   |WI=>
    cases yV;cases hr;generalize hq:a.eval x=q at aw;cases aw;obtain⟨y,hy,gz⟩:=fin #[] none (HB he hk sG (n:=0) (L:=[]) (by simp)) trivial;refine⟨y,?_,gz⟩;simp only[execOp,ho,Sem.run_bind,hq,Instr.lookup,Ad he hu,Result.andThen_ok,Sem.run_pure];simp only[Sem.run_bind]at hy;exact congrArg (fun R:Result Value=>R.andThen fun a w'=>Result.ok (Next.value a) w') hy
   |map b=>
    simp only[dS]at yV;obtain⟨cl,hb⟩:=Jb yV;obtain⟨arr,l,hm⟩:=hS.map hb;generalize hq:a.eval x=q at aw;cases aw;obtain⟨g1,g2⟩:=Je he hk sG hm hr;have:∃q,(Instr.findKey key (a.eval k) arr.toList).run P w= .ok q w/\uJ C r q:=by
     cases r with
     |none=>exact⟨none,(g1 rfl).1 w,trivial⟩
     |some e=>
      obtain⟨_,_,_,i,m,_,_,hv,_,hf⟩:=g2 e rfl;exact⟨_,hf w,hv⟩
    obtain⟨qq,hqq,sH⟩:=this;obtain⟨y,hy,gz⟩:=fin arr qq hqq sH;refine⟨y,?_,gz⟩;simp only[execOp,ho,Sem.run_bind,hq,Instr.lookup,Ad he hu,Result.andThen_ok,AG hm.at_ (by simp),Sem.run_pure];simp only[Sem.run_bind]at hy;exact congrArg (fun R:Result Value=>R.andThen fun a w'=>Result.ok (Next.value a) w') hy
   |_=>cases yV
  .exact Ap
 .exact Ap
omit he in
theorem BL {C:Cx} {S:St} {w:World} (hS:W2 C S w) {b:Nat} {o0:Cw} (hb:S.heap.get b=some o0) {C':Cx} (e:Ext C C') (hD:∀k,C'.D k->C.D k) (hM:C'.M=C.M) (hX:C'.X=C.X)
 (hG:∀k n,C'.G k n->C.G k n\/k=b) {o:Cw} {x y:Obj} (hx:w.heap[(C.pl b).Ci]?=some y) (hc:∀c e f,y≠ .cells c e f) (hr:OR C' b o x):
 (setObj (C.pl b).Ci x).run P w= .ok () (World.CW w (C.pl b).Ci x)/\Cu C S w C' (S.put b (some o)) (World.CW w (C.pl b).Ci x):=
 ⟨Dn hx hc,JE hS hb e hD hM hX hG o x hr⟩
omit he in
theorem uK {C:Cx} {k:AV} {kx:Value} (hk:VR C k kx) (X2:gN k=true) (w:World):(Instr.keyThatStays kx kx).run P w= .ok kx w:=
 uI (Pg X2 hk 9999)
theorem Un {t key elem:TypeId} {kd:Kd} (hu:CN E t=some (.map key elem)) (hk:bQ E key=some kd) {C:Cx} {S S':St} {w:World} (hS:W2 C S w) {k v m:AV} {kx vx mx:Value}
 (sG:VR C k kx) (hvv:VR C v vx) (mm:VR C m mx) (h:Z9 kd S k v m=some S'):∃C' w',(Instr.mapUpdate t mx kx vx).run P w= .ok () w'/\Cu C S w C' S' w':=by
 unfold Z9 at h;split at h
 .next b=>
  cases X2:cK kd k with
  |false=>rw[X2]at h;cases h
  |true=>
  rw[X2]at h;simp only[cond_true]at h;unfold gQ at h;split at h
  .next es clock hb=>
   obtain⟨r,hr,h⟩:=Qa.1 h;obtain⟨arr,l,hm⟩:=hS.map hb;obtain⟨g1,g2⟩:=Je he hk sG hm hr;have nN:=fun e w=>DB he hk sG X2 e w;have hkok:=kd_len X2;cases mm with
   |map hd=>
   cases r with
   |none=>
    cases h;obtain⟨mq,uL⟩:=hm.add sG hvv hkok (g1 rfl).2;obtain⟨C8,ht⟩:=BL (P:=P) hS hb (Ext.Y7 mq) (fun _ h=>h) rfl rfl (fun k n h=>h.imp id (fun h=>h.1)) hm.at_ (by simp) uL;refine⟨_,_,?_,ht⟩;simp only[Instr.mapUpdate,Sem.run_bind,Ad he hu,Result.andThen_ok,AG hm.at_ (by simp),nN,(g1 rfl).1,C8]
   |some e=>
    cases h;obtain⟨Yw,tt,eg,i,me,hi,hmk,hmv,hmb,hf⟩:=g2 e rfl;have uL:=hm.upd sG hvv hr hi hmb;obtain⟨C8,ht⟩:=BL (P:=P) hS hb (.refl C) (fun _ h=>h) rfl rfl (fun k n h=> .inl h) hm.at_ (by simp) uL;refine⟨_,_,?_,ht⟩;simp only[Instr.mapUpdate,Sem.run_bind,Ad he hu,Result.andThen_ok,AG hm.at_ (by simp),nN,hf,hi,Option.map_some,Option.getD_some,hmk,uK sG hkok,C8]
  .cases h
 .cases h
theorem N7 {o:Oper} {t:TypeId} {m k v:Operand} (ho:o.op= .mapUpdate t m k v\/o.op= .insert t m k v):Yq E P o (bp E t m k v):=by
 unfold bp;split
 .next key elem hu=>
  split
  .next kd hk=>
   intro C T a S w hg hT hS r S' h;obtain⟨av,jq,h⟩:=Qa.1 h;obtain⟨bv,uF,h⟩:=Qa.1 h;obtain⟨cv,hcv,h⟩:=Qa.1 h;obtain⟨s',Z5,hr⟩:=K7 h;cases hr;obtain⟨C',w',C8,ht⟩:=Un he hu hk hS (Ak hg hT uF) (Ak hg hT hcv) (Ak hg hT jq) Z5;refine⟨C',.skip,w',?_,ht,.skip⟩;rcases ho with ho|ho<;>simp[execOp,ho,C8]
  .exact Ap
 .exact Ap
end
theorem Gu {C:Cx} {b:Nat} {v:AV} {vx:Value} (hv:VR C v vx) {n:Nat} (hi:∀j,C.G b j->C.gh b j=C.gh b n->j=n):
 ∀ {es lf:List Xk} {l:List MapEntry},W9 C b es l->(es.map (·.2.2)).Nodup->gR n v es=some lf->
  W9 C b lf (l.map (XQ (C.gh b n) fun e=> {e with val:=vx}))/\lf.map (·.1)=es.map (·.1)/\C.G b n/\∃m∈l,m.born=C.gh b n
 |_,_,_,.nil,_,h=>by cases h
 |e::es,lf,m::l,.cons h1 h2 h3 h4 t,hn,h=>by
  simp only[List.map_cons,List.nodup_cons]at hn;simp only[gR]at h;simp only[List.map_cons];cases hq:Nat.beq _ n with
  |true=>
   rw[hq]at h;cases h;have jr:=Qb hq;have hm:m.born=C.gh b n:=by rw[h4];exact congrArg _ jr
   have cz:l.map (XQ (C.gh b n) fun e=> {e with val:=vx})=l:=by
    rw[List.map_congr_left (g:=id),List.map_id];intro m' lh;obtain⟨e',Zs,_,_,g3,g4⟩:=t.sF lh;have:m'.born≠C.gh b n:=by
     rw[g4];intro hb;have:=hi _ g3 hb;exact hn.1 (List.mem_map.2 ⟨e',Zs,this.trans jr.symm⟩)
    simp[XQ,this]
   rw[cz];simp only[XQ,hm,if_true];exact⟨.cons h1 hv h3 (hm.symm.trans h4) t,U,jr▸h3,m,Qh ..,hm⟩
  |false=>
   rw[hq]at h;obtain⟨r,hr,h⟩:=Qa.1 h;cases h;have jr:¬_=n:=Nat.ne_of_beq_eq_false hq;have hm:m.born≠C.gh b n:=by
    rw[h4];intro hb;exact jr (hi _ h3 hb)
   obtain⟨a1,a2,a3,m',lh,a4⟩:=Gu hv hi t hn.2 hr;simp only[XQ,hm,if_false];exact⟨.cons h1 h2 h3 h4 a1,by simp[a2],a3,m',Qg _ lh,a4⟩
theorem Ie {n:Nat}:∀ {l:List MapEntry},(∃m∈l,m.born=n)->∃i m,l.findIdx? (fun e=>(e.born:Int)==(n:Int))=some i/\l[i]?=some m/\m.born=n
 | [],h=>by obtain⟨_,h,_⟩:=h;cases h
 |a::l,h=>by
  by_cases ha:a.born=n
  .exact⟨0,a,by simp[List.findIdx?_cons,ha],U,ha⟩
  .obtain⟨m,hm,hn⟩:=h;have lh:m∈l:=(Qk.1 hm).resolve_left (fun e=>ha (e▸hn));obtain⟨i,m',h1,h2,h3⟩:=Ie (l:=l) ⟨m,lh,hn⟩;refine⟨i+1,m',?_,by simpa using h2,h3⟩;have:((a.born:Int)==(n:Int))=false:=by simp only[beq_eq_false_iff_ne,ne_eq];omega
   simp[List.findIdx?_cons,this,h1]
theorem ic.dK {C:Cx} {b clock:Nat} {es lf:List Xk} {w:World} {arr:Array MapEntry} {l:List MapEntry} (h:ic C b es clock w arr l) {v:AV} {vx:Value} (hv:VR C v vx) {n:Nat} (hg:C.G b n)
 (hs:gR n v es=some lf):∃i,arr.findIdx? (fun e=>(e.born:Int)==(C.gh b n:Int))=some i/\OR C b (.map lf clock) (.map (arr.modify i fun e=> {e with val:=vx}) clock):=by
 obtain⟨a1,a2,a3,m,hm,a4⟩:=Gu hv (fun j hj hgj=>h.inj _ _ hj hg hgj) h.cT h.Zh hs;obtain⟨i,m',h1,h2,h3⟩:=Ie (l:=arr.toList) ⟨m,h.perm.mem_iff.1 hm,a4⟩;refine⟨i,by rw[<-h1];have:=List.findIdx?_toArray (p:=fun e:MapEntry=>(e.born:Int)==(C.gh b n:Int)) (l:=arr.toList);simpa using this,.map (l:=l.map (XQ (C.gh b n) fun e=> {e with val:=vx})) ?_ a1 (by rw[Iw,a2,<-Iw];exact h.keys) ?_ h.yc h.stamps h.inj⟩
 .rw[IX h.iV (by simpa using h2),h3];exact h.perm.map _
 .rw[List.map_map];have:((·.born)∘XQ (C.gh b n) fun e=> {e with val:=vx}:MapEntry->Nat)=(·.born):=by
   funext m;simp only[Function.comp,XQ];split<;>rfl
  rw[this];exact h.nodup
section
variable {E : Env} {P : Program} (he : CV E P)
include he
theorem TZ {o:Oper} {c:Call} {t:TypeId} {ts:List TypeId} {m k:Operand} (ho:o.op= .call c) (hc:c.callee= .builtin .delete) (fO:c.argTypes.toList=t::ts) (eX:c.args.toList=[m,k]):
 Yq E P o (delC E t m k):=by
 have l9:c.argTypes[0]?=some t:=by rw[<-Array.getElem?_toList,fO];rfl
 have XY:∀ρ:Operand->Value,c.args.map ρ= #[ρ m,ρ k]:=by
  intro ρ;apply Array.ext';simp[eX]
 unfold delC;split
 .next key elem hu=>
  split
  .next kd hk=>
   intro C T a S w hg hT hS r S' h;obtain⟨av,jq,h⟩:=Qa.1 h;obtain⟨kv,uF,h⟩:=Qa.1 h;obtain⟨s',Z5,hr⟩:=K7 h;cases hr;have mm:=Ak hg hT jq;have sG:=Ak hg hT uF;have cy:(execOp a.eval o).run P w=(do pure (Next.value (<-Builtin.delete_ c.argTypes o.type #[a.eval m,a.eval k])):Sem Next).run P w:=by
    simp[execOp,ho,resolve,hc,invoke,builtin,XY]
   cases av with
   |map b=>
    simp only[yu]at Z5;cases X2:cK kd kv with
    |false=>rw[X2]at Z5;cases Z5
    |true=>
    rw[X2]at Z5;simp only[cond_true]at Z5;have nN:=fun e w=>DB he hk sG X2 e w;unfold delIn at Z5;split at Z5
    .next es clock hb=>
     obtain⟨r',hr,Z5⟩:=Qa.1 Z5;obtain⟨arr,l,hm⟩:=hS.map hb;obtain⟨g1,g2⟩:=Je he hk sG hm hr;generalize hq:a.eval m=q at mm;cases mm with
     |map hd=>
     cases r' with
     |none=>
      cases Z5;have C8:=Dn (P:=P) (w:=w) (r:=(C.pl b).Ci) (o:= .map arr clock) hm.at_ (by simp);have rh:World.CW w (C.pl b).Ci (.map arr clock)=w:=by
       unfold World.CW;have:w.heap.setIfInBounds (C.pl b).Ci (.map arr clock)=w.heap:=by
        apply Array.ext_getElem?;intro j;rw[Array.getElem?_setIfInBounds];split
        .next e=>subst e;rw[hm.at_];simp[Bq hm.at_]
        .rfl
       rw[this]
      rw[rh]at C8;refine⟨C,.value _,w,?_,Cu.refl hS,.value VR.unit⟩;rw[cy];simp[Builtin.delete_,l9,Ad he hu,hq,AG hm.at_ (by simp),nN,(g1 rfl).1,C8]
     |some e=>
      cases Z5;obtain⟨Yw,tt,eg,i,me,hi,hmk,hmv,hmb,hf⟩:=g2 e rfl;have uL:=hm.del hr hi hmb;obtain⟨C8,ht⟩:=BL (P:=P) hS hb (.refl C) (fun _ h=>h) rfl rfl (fun k n h=> .inl h) hm.at_ (by simp) uL;refine⟨C,.value _,_,?_,ht,.value VR.unit⟩;rw[cy];simp[Builtin.delete_,l9,Ad he hu,hq,AG hm.at_ (by simp),nN,hf,C8]
    .cases Z5
   |WI=>
    simp only[yu]at Z5;cases X2:cK kd kv with
    |false=>rw[X2]at Z5;cases Z5
    |true=>
    rw[X2]at Z5;cases Z5;have nN:=fun e w=>DB he hk sG X2 e w;generalize hq:a.eval m=q at mm;cases mm with
    |WI=>
    refine⟨C,.value _,w,?_,Cu.refl hS,.value VR.unit⟩;rw[cy];simp[Builtin.delete_,l9,Ad he hu,hq,nN]
   |_=>simp[yu]at Z5
  .exact Ap
 .exact Ap
theorem uM {o:Oper} {t:TypeId} {x:Operand} (ho:o.op= .range t x):Yq E P o (qd E t x):=by
 unfold qd;split
 .next hu=>
  intro C T a S w hg hT hS;refine⟨fun v h=>?_,fun ob g h=>?_⟩
  .obtain⟨av,jq,h⟩:=Qa.1 h;cases av<;>cases h
  .obtain⟨av,jq,h⟩:=Qa.1 h;have hv:=Ak hg hT jq;cases av<;>try (cases h;done)
   rename_i b
   cases h;generalize hq:a.eval x=q at hv;cases hv with
   |str hs=>
   refine⟨_,_,_,?_,Cu.alloc hS _ (.stringIter _ 0) 0 (.di hs (by rw[AQ])),Ff 0⟩;simp[execOp,ho,Instr.range,Ad he hu,hq,World.Wb]
 .next k e hu=>
  intro C T a S w hg hT hS v S' h;obtain⟨av,jq,h⟩:=Qa.1 h;have hv:=Ak hg hT jq;cases av with
  |WI=>
   cases h;generalize hq:a.eval x=q at hv;cases hv;refine⟨_,.value _,_,?_,Cu.alloc hS _ (.mapIter none 0 #[] 0) 0 (.n9 (by rw[AQ])),.value (Ff 0)⟩;simp[execOp,ho,Instr.range,Ad he hu,hq,World.Wb]
  |map m=>
   simp only[rangeMap]at h;split at h
   .next es clock hb=>
    cases h;obtain⟨arr,l,hm⟩:=hS.map hb;generalize hq:a.eval x=q at hv;cases hv with
    |map hd=>
    have XV:(C.fresh S w 0).pl m=C.pl m:=(Fg hS 0).pl m hd;refine⟨_,.value _,_,?_,Cu.alloc hS _ (.mapIter (some (C.pl m).Ci) clock #[] clock) 0 ?_,.value (Ff 0)⟩
    .simp[execOp,ho,Instr.range,Ad he hu,hq,AG hm.at_ (by simp),World.Wb]
    .have:=OR.af (C:=C.fresh S w 0) (b:=S.next) (m:=m) (since:=clock) (Xa:=clock) (seen:=[]) (arr:= #[]) ((Fg hS 0).D m hd) (by simp) rfl (by rw[AQ]);rw[XV]at this;exact this
   .cases h
  |_=>cases h
 .exact Ap
end
section
variable {E : Env} {P : Program}
theorem Hk {α β γ:Type} (r:Result α) (f:α->World->Result β) (g:β->World->Result γ):(r.andThen f).andThen g=r.andThen fun a w=>(f a w).andThen g:=by
 cases r<;>rfl
theorem Tw {n:Nat}:∀ {l:List Nat},lY n l=true↔n∈l
 | []=>by simp[lY]
 |k::l=>by
  simp only[lY];cases h:Nat.beq k n with
  |true=>have:=Qb h;subst this;simp
  |false=>
   have:=Nat.ne_of_beq_eq_false h;simp only[cond_false,Qk];rw[Tw];constructor
   .exact .inr
   .grind
theorem NL {seen:List Nat} {e:Xk}:∀ {es:List Xk},e∈gT seen es↔e∈es/\e.2.2∉seen
 | []=>by simp[gT]
 |a::l=>by
  simp only[gT];cases h:lY a.2.2 seen with
  |true=>
   have:=Tw.1 h;simp only[cond_true];rw[NL];constructor
   .grind
   .grind
  |false=>
   have hn:a.2.2∉seen:=fun hm=>by rw[Tw.2 hm]at h;cases h
   simp only[cond_false,Qk];rw[NL];constructor
   .grind
   .grind
theorem KM {s:St} {r m since clock:Nat} {seen:List Nat} {e:Xk}:∀ {es:List Xk},e∈es->
 (AV.tuple [.bool true,e.1,e.2.1],s.put r (some (.af (some m) since (seen++[e.2.2]) clock)))∈mU s r m since clock seen es
 |a::l,h=>by
  simp only[mU];rcases Qk.1 h with rfl|h
  .exact Qh ..
  .exact Qg _ (KM h)
theorem SA {s:ByteArray} {pos:Nat} {c:UInt8} (h:s.data[pos]?=some c) (hc:c.toNat<128):Utf8.decode s pos=(c.toNat,1):=by
 have hg:s.get! pos=c:=by
  have Co:pos<s.data.size:=by grind
  have:s.data[pos]! =c:=by grind
  exact this
 simp only[Utf8.decode,Nat.add_zero,hg];rw[if_pos (by omega)]
theorem NI {s:St} {v:AV} {r} (h:jF s v=some r):∃b,v= .ptr b 0/\iF s b (s.heap.get b)=some r:=by
 unfold jF at h;split at h
 .exact⟨_,U,h⟩
 .cases h
theorem NJ {s:St} {v:AV} {r} (h:jG s v=some r):∃b,v= .ptr b 0/\iG s b (s.heap.get b)=some r:=by
 unfold jG at h;split at h
 .exact⟨_,U,h⟩
 .cases h
theorem PA {s:St} {v:AV} {r} (h:mW s v=some r):∃b,v= .ptr b 0/\mV s (s.heap.get b)=some r:=by
 unfold mW at h;split at h
 .exact⟨_,U,h⟩
 .cases h
theorem RI {o:Oper} {it:Operand} (ho:o.op= .next it true):Yq E P o (.act true (Cg E it) fun T s=>(Cg E it T).bind (jF s)):=by
 intro C T a S w hg hT hS v S' h;obtain⟨av,jq,h⟩:=Qa.1 h;have hv:=Ak hg hT jq;obtain⟨r,oX,h1⟩:=NI h;subst oX;replace h:=h1;clear h1;unfold iF at h;split at h
 .next b pos hb=>
  obtain⟨l,hl,h⟩:=Qa.1 h;obtain⟨hd,x,hx,hr⟩:=hS.live r _ hb;generalize hq:a.eval it=q at hv;cases hv with
  |ptr ri=>
  cases hr with
  | @di _ s _ hs fq=>
  rw[fq]at hq;obtain⟨pre,kI,XV⟩:=B8 hl;have hlen:s.size=pre.length+l.length:=by
   have:s.size=s.data.toList.length:=by simp
   rw[this,hs,kI];simp
  have YZ:=AG (P:=P) (w:=w) hx (by simp);split at h
  .next c rest=>
   have fP:pos<s.size:=by simp at hlen;omega
   have hc:s.data[pos]?=some c:=by
    rw[<-Array.getElem?_toList,hs,kI,List.getElem?_append_right (by omega)];simp[XV]
   have hstr:(⟨b.toArray⟩:ByteArray)=s:=by apply ByteArray.ext;apply Array.ext';simp[hs]
   cases lD:Nat.blt c.toNat 128 with
   |true=>
    rw[lD]at h;cases h;have Co:c.toNat<128:=by simpa[Nat.blt_eq]using lD
    obtain⟨C8,ht⟩:=BL (P:=P) hS hb (.refl C) (fun _ h=>h) rfl rfl (fun k n h=> .inl h) hx (by simp) (OR.di (C:=C) (b:=r) (pos:=pos+1) hs fq);refine⟨C,.value _,_,?_,ht,.value (.tuple (x:= #[.bool true,goInt pos,.int .i32 c.toNat]) (.cons (.bool true) (.cons (.int _ _) (.one (.int _ _)))))⟩;simp[execOp,ho,Instr.next,hq,YZ,fP,SA hc Co,C8]
   |false=>
    rw[lD]at h;simp only[cond_false,qQ,hstr]at h;cases h;obtain⟨C8,ht⟩:=BL (P:=P) hS hb (.refl C) (fun _ h=>h) rfl rfl (fun k n h=> .inl h) hx (by simp) (OR.di (C:=C) (b:=r) (pos:=pos+(Utf8.decode s pos).2) hs fq);refine⟨C,.value _,_,?_,ht,.value (.tuple (x:= #[.bool true,goInt pos,.int .i32 (Utf8.decode s pos).1]) (.cons (.bool true) (.cons (.int _ _) (.one (.int _ _)))))⟩;simp[execOp,ho,Instr.next,hq,YZ,fP,C8]
  .cases h;have fP:¬pos<s.size:=by simp at hlen;omega
   refine⟨C,.value _,w,?_,Cu.refl hS,.value (.tuple (x:= #[.bool false]) (.one (.bool false)))⟩;simp[execOp,ho,Instr.next,hq,YZ,fP]
 .cases h
theorem S5 {α:Type} {p:α->Bool} {l:List α} (h:∀x∈l,p x=true):l.filter p=l:=List.filter_eq_self.2 h
theorem P6 {α:Type} {p:α->Bool} {l:List α} (h:∀x∈l,p x=false):l.filter p=[]:=by grind [List.filter_eq_nil_iff]
theorem RJ {o:Oper} {it:Operand} (ho:o.op= .next it false):Yq E P o (.lO fun T s=>(Cg E it T).bind (jG s)):=by
 intro C T a S w hg hT hS ps h;obtain⟨av,jq,h⟩:=Qa.1 h;have hv:=Ak hg hT jq;obtain⟨r,oX,h1⟩:=NJ h;subst oX;replace h:=h1;clear h1;unfold iG at h;generalize hq:a.eval it=q at hv;cases hv with
 |ptr ri=>
 split at h
 .next hb=>
  cases h;obtain⟨hd,x,hx,hr⟩:=hS.live r _ hb;cases hr with
  |n9 fq=>
  rw[fq]at hq;have YZ:=AG (P:=P) (w:=w) hx (by simp);refine⟨_,Qn.2 U,C,_,w,?_,Cu.refl hS,.tuple (x:= #[.bool false]) (.one (.bool false))⟩;simp[execOp,ho,Instr.next,hq,YZ]
 .next m since seen Xa hb=>
  obtain⟨hd,x,hx,hr⟩:=hS.live r _ hb;cases hr with
  | @af _ _ _ _ iW uN hgs rj fq=>
  rw[fq]at hq;have YZ:=AG (P:=P) (w:=w) hx (by simp);unfold ma at h;split at h
  .next es clock uA=>
   obtain⟨arr,l,hm⟩:=hS.map uA;cases X7:(Nat.beq clock Xa&&Nat.beq clock since)with
   |false=>rw[X7]at h;cases h
   |true=>
   rw[X7]at h;simp only[Qf]at X7;have h1:=Qb X7.1;have h2:=Qb X7.2;subst h1;subst h2;simp only[cond_true]at h;have uO:=AG (P:=P) (w:=w) hm.at_ (by simp);have Co:=hm.cT.nK hm.yc;have j5:∀e∈arr.toList,e.born<clock:=fun e he=>Co e (hm.perm.mem_iff.2 he);have Za:(!iW.isEmpty&& !arr.isEmpty&&arr.all (fun e=>decide (e.born>=clock)))=false:=by
    cases ha:arr.toList with
    |nil=>
     have:arr= #[]:=Array.ext' (by simpa using ha);subst this;simp
    |cons e rest=>
     have:=j5 e (by rw[ha];exact Qh ..);have hf:arr.all (fun e=>decide (e.born>=clock))=false:=by
      rw[<-Array.all_toList,ha];simp only[List.all_cons,Bool.and_eq_false_imp,decide_eq_true_eq];intro h;omega
     rw[hf];simp
   have ie:∀e∈es,∀n,n=C.gh m e.2.2->C.G m e.2.2->(iW.contains n=true↔e.2.2∈seen):=by
    rintro e _ n rfl eg;rw[Array.contains_iff_mem,<-Array.mem_toList_iff,rj,List.mem_map];constructor
    .rintro⟨k,hk,hkk⟩;have:=hm.inj _ _ (hgs k hk) eg hkk;rw[<-this];exact hk
    .intro hk;exact⟨_,hk,rfl⟩
   have hold:(arr.filter fun e=> !iW.contains e.born).filter (fun e=>decide (e.born<clock))=arr.filter fun e=> !iW.contains e.born:=by
    apply Array.ext';rw[Array.toList_filter];apply S5;intro e he;have:e∈arr.toList:=by
     rw[Array.toList_filter]at he;exact(List.mem_filter.1 he).1
    simp[j5 e this]
   have ZN:(arr.filter fun e=> !iW.contains e.born).filter (fun e=>decide (e.born>=clock))= #[]:=by
    apply Array.ext';rw[Array.toList_filter];apply P6;intro e he;have:e∈arr.toList:=by
     rw[Array.toList_filter]at he;exact(List.mem_filter.1 he).1
    have:=j5 e this;simp;omega
   generalize uP:(arr.filter fun e=> !iW.contains e.born)=left at hold ZN;have pickk:∀n,0<n->∃k w1,(choose (.mapNext n)).run P w= .ok k w1/\k<n/\w1.heap=w.heap/\Cu C S w C S w1:=by
    intro n hn;by_cases hf:n<=1
    .exact⟨0,w,by simp[choose,Sem.run,Question.forced,hf],hn,U,Cu.refl hS⟩
    .refine⟨w.tape w.drawn (.mapNext n) % n, {w with drawn:=w.drawn+1},by simp[choose,Sem.run,Question.forced,hf,Question.cut],Nat.mod_lt _ hn,U,Cu.drew hS _⟩
   have uQ:∀e∈left,∃q∈gT seen es,VR C q.1 e.key/\VR C q.2.1 e.val/\C.G m q.2.2/\e.born=C.gh m q.2.2:=by
    intro e he;rw[<-uP,<-Array.mem_toList_iff,Array.toList_filter,List.mem_filter]at he;obtain⟨q,fo,lj,hq3,hq4,hq5⟩:=hm.cT.sF (hm.perm.mem_iff.2 he.1);refine⟨q,NL.2 ⟨fo,fun hs=>?_⟩,lj,hq3,hq4,hq5⟩;have:=(ie q fo e.born hq5 hq4).2 hs;rw[this]at he;simp at he
   have hleft2:gT seen es≠ []->left≠ #[]:=by
    intro YM eV;obtain⟨q,hq⟩:=List.exists_mem_of_ne_nil _ YM;obtain⟨fo,lj⟩:=NL.1 hq;obtain⟨e,he1,he2,he3,he4,he5⟩:=hm.cT.mem fo;have Yw:e∈left:=by
     rw[<-uP,<-Array.mem_toList_iff,Array.toList_filter,List.mem_filter];refine⟨hm.perm.mem_iff.1 he1,?_⟩;cases hc:iW.contains e.born with
     |false=>rfl
     |true=>exact absurd ((ie q fo e.born he5 he4).1 hc) lj
    rw[eV]at Yw;simp at Yw
   have cy:(execOp a.eval o).run P w=((choose (.mapNext ((if left.isEmpty then #[none]else #[])++left.map some).size)).run P w).andThen fun i w1=>
    (match((if left.isEmpty then #[none]else #[])++left.map some:Array (Option MapEntry))[i]? with
    |some (some e)=>((setObj (C.pl r).Ci (.mapIter (some (C.pl m).Ci) clock (iW.push e.born) clock)).run P w1).andThen fun _ w2=> .ok (Next.value (.tuple #[.bool true,e.key,e.val])) w2
    |some none=> .ok (Next.value (.tuple #[.bool false])) w1
    |none=> .halt (.stuck "Next: no such candidate") w1):=by
    simp only[execOp,ho,Instr.next,hq,Sem.run_bind,YZ,Result.andThen_ok,uO,Za,uP,hold,ZN,Array.append_empty,Bool.false_eq_true,if_false];rw[Hk]
    congr 1
    funext i w1
    generalize ((if left.isEmpty=true then #[none]else #[])++Array.map some left)[i]?=qq;rcases qq with _|_|e
    .rfl
    .rfl
    .simp[Hk]
   rw[cy];cases hla:gT seen es with
   |nil=>
    rw[hla]at h;cases h;have eV:left= #[]:=by
     apply Array.ext';cases pO:left.toList with
     |nil=>rfl
     |cons e rest=>
      obtain⟨q,fo,_⟩:=uQ e (by rw[<-Array.mem_toList_iff,pO];exact Qh ..);rw[hla]at fo;cases fo
    subst eV;refine⟨_,Qn.2 U,C,_,w,?_,Cu.refl hS,.tuple (x:= #[.bool false]) (.one (.bool false))⟩;simp[choose,Sem.run,Question.forced]
   |cons q0 rest=>
    rw[hla]at h;have YM:=hleft2 (by rw[hla];simp);have hemp:left.isEmpty=false:=by
     cases hi:left.isEmpty with
     |false=>rfl
     |true=>exact absurd (by simpa using hi) YM
    rw[hemp];simp only[Bool.false_eq_true,if_false,Array.empty_append,Array.size_map];have fP:0<left.size:=Nat.pos_of_ne_zero fun h0=>YM (by simpa using h0);obtain⟨k,w1,hk,l4,hheap,ht1⟩:=pickk _ fP;have eg:left[k]?=some left[k]:=Array.getElem?_eq_getElem l4;obtain⟨q,fo,lj,hq3,hq4,hq5⟩:=uQ left[k] (Array.getElem_mem l4);cases h;refine⟨_,KM (by rw[<-hla];exact fo),?_⟩;have hx1:w1.heap[(C.pl r).Ci]?=some (.mapIter (some (C.pl m).Ci) clock iW clock):=by rw[hheap];exact hx
    obtain⟨C8,ht⟩:=BL (P:=P) ht1.st hb (.refl C) (fun _ h=>h) rfl rfl (fun k n h=> .inl h) hx1 (by simp)
     (OR.af (C:=C) (b:=r) (m:=m) (since:=clock) (Xa:=clock) (seen:=seen++[q.2.2]) (arr:=iW.push left[k].born) uN (fun n hn=>by
      rcases List.mem_append.1 hn with hn|hn
      .exact hgs n hn
      .simp only[Qn]at hn;subst hn;exact hq4) (by simp[rj,hq5]) fq)
    refine⟨C,.tuple #[.bool true,left[k].key,left[k].val],_,?_,ht1.trans ht,.tuple (.cons (.bool true) (.cons lj (.one hq3)))⟩;simp only[hk,Result.andThen_ok,Array.getElem?_map,eg,Option.map_some,C8]
  .cases h
 .cases h
theorem Gv {n:Nat} {e:Xk}:∀ {es:List Xk},gU n es=some e->e∈es/\e.2.2=n
 |a::l,h=>by
  simp only[gU]at h;cases hq:Nat.beq a.2.2 n with
  |true=>rw[hq]at h;cases h;exact⟨Qh ..,Qb hq⟩
  |false=>
   rw[hq]at h;obtain⟨h1,h2⟩:=Gv h;exact⟨Qg _ h1,h2⟩
theorem KV {n:Nat}:∀ {l:List Nat},tQ l=some n->∃r,l=r++[n]
 | [],h=>by cases h
 | [a],h=>by cases h;exact⟨[],rfl⟩
 |a::b::l,h=>by
  obtain⟨r,hr⟩:=KV (l:=b::l) h;exact⟨a::r,by rw[hr];rfl⟩
theorem uR {o:Oper} {it:Operand} (ho:o.op= .entry it):Yq E P o (.look fun T s=>(Cg E it T).bind (mW s)):=by
 intro C T a S w hg hT hS v h;obtain⟨av,jq,h⟩:=Qa.1 h;have hv:=Ak hg hT jq;obtain⟨r,oX,h1⟩:=PA h;subst oX;replace h:=h1;clear h1;generalize hq:a.eval it=q at hv;cases hv with
 |ptr ri=>
 unfold mV at h;split at h
 .next m since seen Xa hb=>
  obtain⟨n,hn,h⟩:=Qa.1 h;obtain⟨hd,x,hx,hr⟩:=hS.live r _ hb;cases hr with
  | @af _ _ _ _ iW uN hgs rj fq=>
  rw[fq]at hq;have YZ:=AG (P:=P) (w:=w) hx (by simp);unfold qR at h;split at h
  .next es clock uA=>
   obtain⟨arr,l,hm⟩:=hS.map uA;cases X7:Nat.beq clock Xa with
   |false=>rw[X7]at h;cases h
   |true=>
   rw[X7]at h;have h1:=Qb X7;obtain⟨e,he,h⟩:=Qa.1 h;cases h;subst h1;obtain⟨Yw,WT⟩:=Gv he;obtain⟨me,sE,g1,g2,g3,g4⟩:=hm.cT.mem Yw;have uO:=AG (P:=P) (w:=w) hm.at_ (by simp);obtain⟨pre,kI⟩:=KV hn;have rm:iW.back?=some (C.gh m n):=by
    have:iW=(pre.map (C.gh m)).toArray.push (C.gh m n):=by apply Array.ext';simp[rj,kI]
    rw[this];simp
   have hfind:arr.find? (fun e=>e.born==C.gh m n)=some me:=by
    cases hf:arr.find? (fun e=>e.born==C.gh m n)with
    |none=>
     have:=Array.find?_eq_none.1 hf me (by rw[<-Array.mem_toList_iff];exact hm.perm.mem_iff.1 sE);rw[g4,WT]at this;simp at this
    |some m'=>
     have h1:=Array.find?_some hf;have h2:m'∈l:=hm.perm.mem_iff.2 (Array.mem_toList_iff.2 (Array.mem_of_find?_eq_some hf));have h3:m'.born=C.gh m n:=by simpa using h1
     rw[AZ hm.nodup h2 sE (by rw[h3,g4,WT])]
   refine⟨.tuple #[me.key,me.val],?_,.tuple (.cons g1 (.one g2))⟩;simp[execOp,ho,Instr.entry,hq,YZ,rm,uO,hfind]
  .cases h
 .cases h
end
section
variable {E : Env} {P : Program} (he : CV E P)
include he
omit he in
theorem zg (t:TypeId) (a:Addr) (x y:ByteArray):Builtin.ssaWrapNilChk_ #[t] t #[.pointer (some a),.string x,.string y]=pure (.pointer (some a)):=rfl
theorem JZ {f g:FuncId} {t:TypeId} {p:Bool} {rc:Recv} (h:iH E none f t p=some (g,rc)) {C:Cx} {S:St} {w:World} (hS:W2 C S w) {v r:AV} {x:Value} (hv:VR C v x)
 (hr:dt E S v rc=some r) (wr:Option String):g=f/\∃y,(receiverAt t (.val x) p wr).run P w= .ok y w/\VR C r y:=by
 unfold iH at h;split at h
 .
   split at h
   .next e hu heq=>
    cases h;simp only[dt,qg]at hr;cases hr;exact⟨U,x,by simp[receiverAt,Ad he hu,Place.get],hv⟩
   .contradiction
   .contradiction
   .cases h
 .split at h
  .next e hu heq=>
   cases h;simp only[dt,qg,Qe]at hr;obtain⟨a,y,rfl,hl,hy⟩:=GK (P:=P) he hS hv hr;refine⟨U,y,?_,hy⟩;cases wr with
   |none=>simp[receiverAt,Ad he hu,Place.get,asAddr,hl]
   |some nm=>simp[receiverAt,Ad he hu,Place.get,zg,strVal,asAddr,hl]
  .contradiction
  .next d sL hu heq=>
   cases h;simp only[dt,qg]at hr;cases hr;refine⟨U,x,?_,hv⟩;simp only[receiverAt,Sem.run_bind,Ad he hu,Result.andThen_ok];cases d<;>first|rfl|exact absurd hu (by have:=sL;simp_all)
  .contradiction
  .cases h
theorem JY {f g:FuncId} {t:TypeId} {p:Bool} {rc:Recv} {n:Nat} (h:iH E (some n) f t p=some (g,rc)) {C:Cx} {S:St} {w:World} (hS:W2 C S w) {v r:AV} {x:Value} (hv:VR C v x)
 (hr:dt E S v rc=some r) (wr:Option String):g=f/\∃a y,x= .pointer (some a)/\(receiverAt t (.var (a.add n)) p wr).run P w= .ok y w/\VR C r y:=by
 unfold iH at h;split at h
 .split at h
  .contradiction
  .next e m hu heq=>
   cases h;cases heq;simp only[dt,qg]at hr;obtain⟨q,hq,hr⟩:=Qa.1 hr;obtain⟨a,rfl,uw⟩:=Ek hv hq;obtain⟨a',y,ha',hl,hy⟩:=GK (P:=P) he hS uw hr;cases ha';exact⟨U,a,y,U,by simp[receiverAt,Ad he hu,Place.get,hl],hy⟩
  .next d m sL hu heq=>
   cases h;cases heq;simp only[dt,qg]at hr;obtain⟨q,hq,hr⟩:=Qa.1 hr;cases hr;obtain⟨a,rfl,uw⟩:=Ek hv hq;refine⟨U,a,_,U,?_,uw⟩;simp only[receiverAt,Sem.run_bind,Ad he hu,Result.andThen_ok];cases d<;>first|rfl|exact absurd hu (by have:=sL;simp_all)
  .cases h
 .split at h
  .contradiction
  .cases h
  .contradiction
  .next d m sL hu heq=>
   cases h;cases heq;simp only[dt,qg]at hr;obtain⟨q,hq,hr⟩:=Qa.1 hr;obtain⟨a,rfl,uw⟩:=Ek hv hq;obtain⟨a',y,ha',hl,hy⟩:=GK (P:=P) he hS uw hr;cases ha';refine⟨U,a,y,U,?_,hy⟩;simp only[receiverAt,Sem.run_bind,Ad he hu,Result.andThen_ok];cases d<;>first|exact hl|exact absurd hu (by have:=sL;simp_all)
  .cases h
theorem uS {t:TypeId} {i:TypeInfo} (hi:E.tys.get t=some i) {name:String} {m:Method} (hm:i.methods.toList.find? (·.name==name)=some m) (w:World):
 (typeInfo t).run P w= .ok i w/\i.methods.find? (·.name==name)=some m:=
 ⟨B6 he hi w,by rw[<-hm,Array.find?_toList]⟩
omit he in
theorem zh {st:FieldStep} {q:Nat×TypeId} (h:stepOf E st=some q):∃fields f k,st.deref=true/\CN E st.struct=some (.struct fields)/\fields[st.index]?=some f/\f.offset=q.1/\f.type=q.2/\
 Am.sizeOf E f.type=some (k+1):=by
 unfold stepOf at h;cases hd:st.deref with
 |false=>rw[hd]at h;cases h
 |true=>
 rw[hd]at h;simp only[cond_true]at h;split at h
 .next fields hu=>
  obtain⟨f,hf,h⟩:=Qa.1 h;split at h
  .next k hk=>
   cases h;rw[DV]at hf;exact⟨fields,f,k,U,hu,by simpa using hf,U,U,hk⟩
  .cases h
 .cases h
theorem P3 {st:FieldStep} {fields:Array Field} {f:Field} {k:Nat} (hd:st.deref=true) (hu:CN E st.struct=some (.struct fields)) (hf:fields[st.index]?=some f) (hs:Am.sizeOf E f.type=some (k+1))
 (t:TypeId) (a:Addr) (w:World):(follow [st] t (.val (.pointer (some a)))).run P w= .ok (f.type,.var (a.add f.offset)) w:=by
 simp[follow,Ad he hu,hf,hd,Place.get,asAddr,fieldPlace,A6 he hs]
theorem Uh {t:TypeId} {name:String} {g:FuncId} {rc:Recv} (h:methodOf E t name=some (g,rc)) {C:Cx} {S:St} {w:World} (hS:W2 C S w) {v r:AV} {x:Value} (hv:VR C v x)
 (hr:dt E S v rc=some r) (fuel:Nat):∃y,(method (fuel+1) t x name).run P w= .ok (g,y) w/\VR C r y:=by
 unfold methodOf at h;obtain⟨i,hi,h⟩:=Qa.1 h;obtain⟨m,hm,h⟩:=Qa.1 h;obtain⟨hti,yE⟩:=uS he hi hm w;split at h
 .next f p rn rp=>
  obtain⟨hgf,y,hy,gz⟩:=JZ he h hS hv hr (if m.path.isEmpty then some ((name.splitOn ".").getLastD name)else none);subst hgf;refine⟨y,?_,gz⟩;unfold method;simp only[Sem.run_bind,hti,Result.andThen_ok,yE,rn,follow,Sem.run_pure,rp,hy]
 .next st f p rn rp=>
  cases hd:st.deref with
  |true=>
   rw[hd]at h;simp only[cond_true]at h;obtain⟨q,hq,h⟩:=Qa.1 h;obtain⟨fields,fl,k,h1,h2,h3,h4,h5,h6⟩:=zh hq;obtain⟨hgf,a,y,rfl,hy,gz⟩:=JY he h hS hv hr (if m.path.isEmpty then some ((name.splitOn ".").getLastD name)else none);subst hgf;refine⟨y,?_,gz⟩;unfold method;simp only[Sem.run_bind,hti,Result.andThen_ok,yE,rn,P3 he h1 h2 h3 h6,rp,h4,h5,hy,Sem.run_pure]
  |false=>
   rw[hd]at h;simp only[cond_false]at h;split at h
   .next pb fields hu=>
    obtain⟨fl,hfl,h⟩:=Qa.1 h;cases kH:qf E fl.type with
    |true=>rw[kH]at h;cases h
    |false=>
    rw[kH]at h;simp only[cond_false]at h;obtain⟨n,hn,h⟩:=Qa.1 h;obtain⟨ag,hag,h⟩:=Qa.1 h;cases h;rw[DV]at hfl;have hfl':fields[st.index]?=some fl:=by simpa using hfl
    have hpart:∃cs y,x= .agg cs/\(part fl.type cs fl.offset).run P w= .ok y w/\VR C r y:=by
     cases hag':ag with
     |true=>
      subst hag';simp only[dt]at hr;cases v<;>try (cases hr;done)
      rename_i cs
      simp only[bP]at hr;cases hv with
      |agg WQ Wt=>
      rename_i xs
      obtain⟨l,hl,hr⟩:=Qa.1 hr;cases hq:takeN n l with
      |none=>rw[hq]at hr;cases hr
      |some l'=>
      rw[hq]at hr;cases hr;obtain⟨y,hy,gz⟩:=ES (P:=P) he hag hn WQ Wt (off:=fl.offset) (q:=l') (by unfold cut;rw[hl];exact hq) w;exact⟨xs,y,U,hy,gz⟩
     |false=>
      subst hag';simp only[dt]at hr;cases v<;>try (cases hr;done)
      rename_i cs
      simp only[az]at hr;cases hv with
      |agg WQ Wt=>
      rename_i xs
      obtain⟨y,hy,gz⟩:=DA (P:=P) he hag WQ hr w;exact⟨xs,y,U,hy,gz⟩
    obtain⟨cs,y,rfl,hy,gz⟩:=hpart;refine⟨y,?_,gz⟩;have hund:∃d,CN E fl.type=some d/\∀e,d≠ .pointer e:=by
     unfold Am.isAgg at hag;cases jN:CN E fl.type with
     |none=>rw[jN]at hag;simp at hag
     |some d=>
      refine⟨d,U,?_⟩;rintro e rfl;simp[qf,jN]at kH
    obtain⟨d,ri,sL⟩:=hund;have hrecv:∀wr,(receiverAt fl.type (.val y) false wr).run P w= .ok y w:=by
     intro wr;simp only[receiverAt,Sem.run_bind,Ad he ri,Result.andThen_ok];cases d<;>first|rfl|exact absurd rfl (sL _)
    unfold method;simp only[Sem.run_bind,hti,Result.andThen_ok,yE,rn,follow,Ad he hu,hfl',hd,Bool.false_eq_true,if_false,hy,Sem.run_pure,rp,hrecv]
   .cases h
 .cases h
omit he in
theorem S9 (P:Program):∃k,P.types.size+Made.depth=k+1:=⟨P.types.size+99,rfl⟩
omit he in
theorem Pq {o:Oper} {x:Operand} (ho:o.op= .nilCheck x):Yq E P o (.pure fun T=>(Cg E x T).bind oJ):=by
 intro C T a S w hg hT hS v h;obtain⟨av,jq,h⟩:=Qa.1 h;have hv:=Ak hg hT jq;have plain:∀y,a.eval x=y->(∀n f c,y≠ .func (.method n) f c)->y≠ .pointer none->y≠ .nilIface->y≠ .nilFunc->(execOp a.eval o).run P w= .ok (.value y) w:=by
  intro y hy h1 h2 h3 h4;simp only[execOp,ho,hy];first|rfl|(split<;>first|(exfalso;first|exact h2 rfl|exact h3 rfl|exact h4 rfl|exact h1 _ _ _ rfl)|rfl)
 generalize hq:a.eval x=q at hv;unfold oJ at h;split at h
 .cases h;cases hv with
  |ptr hd=>exact⟨_,plain _ hq (by simp) (by simp) (by simp) (by simp),.ptr hd⟩
 .cases h;cases hv with
  |Wl hm ha WQ hc=>exact⟨_,plain _ hq (by simp) (by simp) (by simp) (by simp),.Wl hm ha WQ hc⟩
 .cases h;cases hv with
  |func hf ha hb=>exact⟨_,plain _ hq (by simp) (by simp) (by simp) (by simp),.func hf ha hb⟩
 .cases h;cases hv with
  |func hf ha hb=>exact absurd rfl (hf _)
  |yield hd=>exact⟨_,plain _ hq (by simp) (by simp) (by simp) (by simp),.yield hd⟩
 .cases h
end
section
variable {E : Env} {P : Program} (he : CV E P)
include he
theorem D0 {f:FuncId} (h:C7 E f=true) (args:Array Value) (w:World):(callFunc f args).run P w= .ok (.enter f args) w:=by
 unfold C7 at h;split at h
 .next fn hf=>
  have hp:=he.fn f fn hf;split at h
  .next b hb=>
   have hl:=he.lone f fn hf;have ZC:¬fn.name= "runtime.NumGoroutine" :=by simpa using hl
   simp[callFunc,hp,ZC,hb]
  .cases h
 .cases hg:E.gH f with
  |none=>rw[hg]at h;cases h
  |some g=>
   obtain⟨fn,b,hp,hb,hl⟩:=he.gH f g hg;have ZC:¬fn.name= "runtime.NumGoroutine" :=by simpa using hl
   simp[callFunc,hp,ZC,hb]
theorem GQ {C:Cx} {S:St} {w:World} (hS:W2 C S w) {name:String} {args rest:List AV} {v:AV} {f:FuncId} {x:Value} {xs:List Value} (hv:VR C v x) (ha:Wc C args xs)
 (h:gW E S name args v=some (f,rest)):∃ys,(callMethod x name xs.toArray).run P w= .ok (.enter f ys) w/\Wc C rest ys.toList:=by
 unfold gW at h;split at h
 .next t u=>
  obtain⟨m,hm,h⟩:=Qa.1 h;cases hb:C7 E m.1 with
  |false=>rw[hb]at h;cases h
  |true=>
  rw[hb]at h;simp only[cond_true]at h;obtain⟨r,hr,h⟩:=Qa.1 h;cases h;cases hv with
  |iface hu=>
  obtain⟨k,hk⟩:=S9 P;obtain⟨y,hy,gz⟩:=Uh he (t:=t) (name:=name) (g:=m.1) (rc:=m.2) hm hS hu hr k;refine⟨#[y]++xs.toArray,?_,by simpa using Wc.cons gz ha⟩;simp only[callMethod,Sem.run_bind];have:(program).run P w= .ok P w:=rfl;simp only[this,Result.andThen_ok,hk,hy,D0 he hb]
 .cases h
omit he in
theorem EB (c:Call) (ρ:Operand->Value):c.args.map ρ=(c.args.toList.map ρ).toArray:=by apply Array.ext';simp
theorem Ps {o:Oper} {c:Call} {f:FuncId} (ho:o.op= .call c) (hc:c.callee= .value (.func f)) (hb:C7 E f=true):
 Yq E P o (.call fun T _=>(CO E c.args.toList T).bind fun args=>some (f,args)):=by
 intro C T a S w hg hT hS g args h;obtain⟨as,has,h⟩:=Qa.1 h;cases h;refine⟨(c.args.toList.map a.eval).toArray,?_,by simpa using Dl hg hT has⟩;simp only[execOp,ho,resolve,hc,Act.eval,Deferred.ofValue,Sem.run_bind,Sem.run_pure,Result.andThen_ok,invoke,Array.empty_append,Array.append_empty];rw[EB,D0 he hb]
omit he in
theorem uT {o:Oper} {c:Call} {x:Operand} (ho:o.op= .call c) (hc:c.callee= .value x):Yq E P o (.ah (Cg E x) (CO E c.args.toList)):=by
 intro C T a S w hg hT hS g args h1 h2;refine⟨a.eval x,(c.args.toList.map a.eval).toArray,Ak hg hT h1,by simpa using Dl hg hT h2,?_⟩;simp only[execOp,ho,resolve,hc];rw[EB]
theorem TQ {o:Oper} {c:Call} {r:Operand} {name:String} (ho:o.op= .call c) (hc:c.callee= .invoke r name):
 Yq E P o (.call fun T s=>(CO E c.args.toList T).bind fun args=>(Cg E r T).bind (gW E s name args)):=by
 intro C T a S w hg hT hS g args h;obtain⟨as,has,h⟩:=Qa.1 h;obtain⟨v,hv,h⟩:=Qa.1 h;obtain⟨ys,hy,gz⟩:=GQ he hS (Ak hg hT hv) (Dl hg hT has) h;refine⟨ys,?_,gz⟩;simp only[execOp,ho,resolve,hc,Sem.run_bind,Sem.run_pure,Result.andThen_ok,invoke,EB];have h0:(#[a.eval r]++(c.args.toList.map a.eval).toArray)[0]?=some (a.eval r):=by simp
 have h1:(#[a.eval r]++(c.args.toList.map a.eval).toArray).extract 1 (#[a.eval r]++(c.args.toList.map a.eval).toArray).size=(c.args.toList.map a.eval).toArray:=by
  apply Array.ext';simp only[Array.toList_extract,Array.toList_append,List.toList_toArray,Array.size_append];simp;rw[List.take_of_length_le (by simp)]
 simp only[h0,h1];exact hy
omit he in
theorem uU {o:Oper} {c:Call} (ho:o.op= .defer c):Yq E P o (fI E c):=by
 unfold fI;split
 .next x hc=>
  intro C T a S w hg hT hS d h;obtain⟨f,hf,h⟩:=Qa.1 h;obtain⟨as,has,h⟩:=Qa.1 h;have hv:=Ak hg hT hf;cases f with
  |func fn fa ca=>
   simp only[iI]at h;cases hy:eM fn with
   |true=>rw[hy]at h;cases h
   |false=>
   rw[hy]at h;cases h;generalize hq:a.eval x=q at hv;cases hv with
   |yield hd=>cases hy
   |func nO ha hb=>
   rename_i xs ys
   refine⟨⟨.fn fn ys,xs++(c.args.toList.map a.eval).toArray⟩,?_,.fn nO (by simpa using ha.append (Dl hg hT has)) hb⟩;simp only[execOp,ho,resolve,hc,hq,Deferred.ofValue,Sem.run_bind,Sem.run_pure,Result.andThen_ok,EB]
  |_=>simp[iI]at h
 .exact Ap
omit he in
theorem RH {o:Oper} {c:Call} (ho:o.op= .call c) (hc:c.callee= .builtin .recover):Yq E P o .recover:=by
 intro C T a S w hg hT hS;simp[execOp,ho,resolve,hc,invoke,builtin]
omit he in
theorem P4 {f:AV->AV->Option AV} {G:Value->Value->Sem Value} (hf:∀(C:Cx) (w:World) v u y z r,VR C v y->VR C u z->f v u=some r->∃q,(G y z).run P w= .ok q w/\VR C r q) {C:Cx} {w:World}:
 ∀ {l:List AV} {xs:List Value} {v r:AV} {x:Value},Wc C l xs->VR C v x->oI f l v=some r->∃q,(xs.foldlM G x).run P w= .ok q w/\VR C r q
 |_,_,v,r,x,.nil,hv,h=>by cases h;exact⟨x,rfl,hv⟩
 |_::_,_,v,r,x,.cons h1 t,hv,h=>by
  simp only[oI]at h;obtain⟨z,hz,h⟩:=Qa.1 h;obtain⟨q,hq,hr⟩:=hf C w _ _ _ _ z hv h1 hz;obtain⟨q',hq',dD⟩:=P4 hf (w:=w) t hr h;exact⟨q',by simp only[List.foldlM_cons,Sem.run_bind,hq,Result.andThen_ok,hq'],dD⟩
omit he in
theorem ok_max {o:Oper} {c:Call} {xs:List Operand} (ho:o.op= .call c) (hc:c.callee= .builtin .max) (eX:c.args.toList=xs):Yq E P o (yv E oH xs):=by
 cases xs with
 |nil=>exact Ap
 |cons x l=>
  intro C T a S w hg hT hS v h;obtain⟨u,hu,h⟩:=Qa.1 h;obtain⟨r,hr,h⟩:=Qa.1 h;obtain⟨q,hq,hvq⟩:=P4 (P:=P) (f:=oH) (G:=Builtin.max2) (fun C w v u y z r hv hu h=>by
   unfold oH at h;split at h
   .cases h;cases hv;cases hu;exact⟨_,rfl,.int _ _⟩
   .cases h) (w:=w) (Dl hg hT hr) (Ak hg hT hu) h
  refine⟨q,?_,hvq⟩;simp only[execOp,ho,resolve,hc,Sem.run_bind,Sem.run_pure,Result.andThen_ok,invoke,builtin,Builtin.max_,EB,eX,List.map_cons,hq]
omit he in
theorem ok_min {o:Oper} {c:Call} {xs:List Operand} (ho:o.op= .call c) (hc:c.callee= .builtin .min) (eX:c.args.toList=xs):Yq E P o (yv E qO xs):=by
 cases xs with
 |nil=>exact Ap
 |cons x l=>
  intro C T a S w hg hT hS v h;obtain⟨u,hu,h⟩:=Qa.1 h;obtain⟨r,hr,h⟩:=Qa.1 h;obtain⟨q,hq,hvq⟩:=P4 (P:=P) (f:=qO) (G:=Builtin.min2) (fun C w v u y z r hv hu h=>by
   unfold qO at h;split at h
   .cases h;cases hv;cases hu;exact⟨_,rfl,.int _ _⟩
   .cases h) (w:=w) (Dl hg hT hr) (Ak hg hT hu) h
  refine⟨q,?_,hvq⟩;simp only[execOp,ho,resolve,hc,Sem.run_bind,Sem.run_pure,Result.andThen_ok,invoke,builtin,Builtin.min_,EB,eX,List.map_cons,hq]
end
structure ZO (E:Env) (P:Program):Prop where
 ext:E.ext=true->∀ {o:Oper} {c:Call} {f:FuncId},o.op= .call c->c.callee= .value (.func f)->C7 E f=false->Yq E P o (gY E f (nameOf E f) c.args.toList)
 data:E.ext=true->∀ {o:Oper} {c:Call} {x:Operand},o.op= .call c->c.callee= .builtin .unsafeSliceData->c.args.toList=[x]->Yq E P o (qS E o.type x)
 str:E.ext=true->∀ {o:Oper} {c:Call} {t:TypeId} {ts:List TypeId} {x y:Operand},o.op= .call c->c.callee= .builtin .unsafeString->c.argTypes.toList=t::ts->c.args.toList=[x,y]->Yq E P o (jH E t x y)
section
variable {E : Env} {P : Program} (he : CV E P) (hx : ZO E P)
include he hx
theorem RR {o:Oper} {c:Call} {b:Builtin} (ho:o.op= .call c) (hc:c.callee= .builtin b):Yq E P o (gZ E o.type b c.argTypes.toList c.args.toList):=by
 unfold gZ;split
 .next h1 h2=>exact Ub he ho hc h1 h2
 .next h1 h2=>exact ok_len he ho hc (by rw[h1];rfl) h2
 .next h1 h2=>exact ok_cap he ho hc (by rw[h1];rfl) h2
 .next h1 h2=>exact zd he ho hc h1 h2
 .next h1 h2=>exact TZ he ho hc h1 h2
 .next h2=>
  cases he:E.ext with
  |true=>exact hx.data he ho hc h2
  |false=>exact Ap
 .next h1 h2=>
  cases he:E.ext with
  |true=>exact hx.str he ho hc h1 h2
  |false=>exact Ap
 .exact ok_max ho hc U
 .exact ok_min ho hc U
 .exact RH ho hc
 .exact Ap
theorem zi {o:Oper} {c:Call} (ho:o.op= .call c):Yq E P o (Wz E o.type c):=by
 unfold Wz;split
 .next b hc=>exact RR he hx ho hc
 .next f hc=>
  cases hb:C7 E f with
  |true=>exact Ps he ho hc hb
  |false=>
   cases he:E.ext with
   |true=>exact hx.ext he ho hc hb
   |false=>exact Ap
 .next x _ hc=>exact uT ho hc
 .next r name hc=>exact TQ he ho hc
theorem rq (o:Oper):Yq E P o (Xz E o.type o.op):=by
 unfold Xz;split
 .next h=>exact TM (.inl h)
 .next h=>exact TM (.inr h)
 .next h=>exact yD h
 .next h=>exact uf he h
 .next h=>exact ok_box h
 .next h=>exact ug he h
 .next h=>exact Mm he h
 .next h=>exact yG he h
 .next h=>exact uk he h
 .next h=>exact Pq h
 .next h=>exact ok_bin he h
 .next h=>exact yL h
 .next h=>exact yZ he h
 .next h=>exact N9 he h
 .next h=>exact Pr h
 .next h=>exact RK he h
 .next h=>exact N8 he h
 .next h=>exact ok_slice he h
 .next h=>exact NB he h
 .next h=>exact ui he h
 .next h=>exact NA he h
 .next h=>exact uj he h
 .next h=>exact TN he h
 .next h=>exact N7 he (.inl h)
 .next h=>exact N7 he (.inr h)
 .next h=>exact uM he h
 .next it isString h=>
  cases isString with
  |true=>exact RI h
  |false=>exact RJ h
 .next h=>exact uR h
 .next h=>exact Ua he h
 .next h=>exact RM h
 .next h=>exact zi he hx h
 .next h=>exact uU h
 .next h=>exact um h
 .exact Ap
end
end Am
