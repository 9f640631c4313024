/- The abstract machine: its operations are the model's, second part. -/
import Derived.Test.YtpihdbhocgcbpaaGreatDoorAmB
import Derived.Maps.AppendAt
set_option linter.unusedSectionVars false
set_option linter.unusedVariables false
set_option linter.unusedSimpArgs false
namespace Am
open Go
section
variable {E : c_} {P : Program} (he : Wd E P)
theorem Gh (z:Array Value) (n:Nat):(Builtin.zeroCells z n).size=n*z.size:=by simp[Builtin.zeroCells]
theorem more_ok {C:Cx} {S:St} {w:World} (hS:WW C S w) {nW new:List AV} {ZO xs:List Value} (ho:Wx C nW ZO) (hn:Wx C new xs) (hco:j_ nW) (qp:j_ new)
 {e:TypeId} {sz len n nc:Nat} {z:Array Value} (hz:z.size=sz) (na:0<sz) (wi:ZO.length=len*sz) (uR:xs.length=n*sz) (hnc:len+n<=nc):
 ∃C',CE C S w C' (S.g (.J (nW++new) e true)) (w.drew.alloc (.cells (ZO.toArray++(xs.toArray++Builtin.zeroCells z (nc-(len+n)))) e))/\
  VR C' (.Z S.a 0 (len+n) sz none) (.slice (some ⟨w.heap.size,0,none⟩) (len+n) nc):=by
 have hw1:=CE.I hS (w.drawn+1);have vR:(ZO.toArray++(xs.toArray++Builtin.zeroCells z (nc-(len+n)))).size=nc*sz:=by
  simp only[Array.size_append,List.size_toArray,Gh,wi,uR,hz];rw[<-Nat.add_assoc,<-Nat.add_mul,<-Nat.add_mul]
  congr 1;omega
 refine⟨_,hw1.u (DD hw1.c (cs:=nW++new) (vs:=ZO++xs) (ex:=(Builtin.zeroCells z (nc-(len+n))).toList) (ho.u hn) ?_ (hco.append qp) e true (fun h=>by cases h)),?_⟩
 .simp
 .exact EV (cap:=none) ⟨vR.symm,na⟩ hnc
theorem wj {C:Cx} {S:St} {w:World} (hS:WW C S w) {b off len n c sz:Nat} {e:TypeId} {cs nW new:List AV} {xs:List Value} {part:Bool} (hb:S.b.g b=some (.J cs e part))
 (hold:v_ cs off (len*sz)=some nW) (hn:Wx C new xs) (qp:j_ new) (uR:xs.length=n*sz) (YM:(C.a b).a+off+c*sz=(C.a b).c) (na:0<sz) (a9:len+n<=c):
 ∃C' w',(storeCells ⟨(C.a b).b,(C.a b).a+off+len*sz,none⟩ xs).run P w= .ok () w'/\CE C S w C' ((S.z b none).g (.J (nW++new) e true)) w'/\
  VR C' (.Z S.a 0 (len+n) sz none) (.slice (some ⟨(C.a b).b,(C.a b).a+off,none⟩) (len+n) c):=by
 obtain⟨hd,x,hx,hr⟩:=hS.a b _ hb;cases hr with
 |J Xr ha X2 WS hf hp=>
 rename_i cc fr vs
 obtain⟨y,hy,hyd,wi,hco,_,Y0⟩:=Xr.M hold;have hyl:y.length=len*sz:=hy.g.trans wi;have hmul:(len+n)*sz<=c*sz:=Nat.mul_le_mul_right sz a9;rw[Nat.add_mul]at hmul;have vE:∀u∈xs,u.oneCell'=true:=by
  intro u hu;obtain⟨i,hi⟩:=List.getElem?_of_mem hu;have hil:i<new.length:=by
   have:=hn.g;rcases Nat.lt_or_ge i xs.length with h'|h'
   .omega
   .rw[List.getElem?_eq_none h']at hi;cases hi
  obtain⟨y',uL,hr⟩:=hn.I (Qi hil);rw[hi]at uL;cases uL;exact hr.tj (qp _ (Ql hil))
 have CF:=Et (P:=P) xs (Cv:=(C.a b).b) (off:=(C.a b).a+off+len*sz) (i:=0) hx hf (by omega) vE;refine⟨C.A S.a ⟨(C.a b).b,(C.a b).a+off,(C.a b).c⟩,_,by simpa using CF,?_,?_⟩
 .refine MO hS hb _ _ ((C.a b).a+off) (C.a b).c ?_;have ZK:=m_.A (C:=C) (b:=S.a) (p:=⟨(C.a b).b,(C.a b).a+off,(C.a b).c⟩) (fun hd=>Nat.lt_irrefl _ (hS.d _ hd));have hxat:∃pre aI post,cc.toList=pre++y++aI++post/\pre.length=(C.a b).a+off/\aI.length=xs.length:=by
   obtain⟨p1,q1,e1,e2⟩:=ha;obtain⟨p2,q2,e3,e4⟩:=Y0;have hlen:=congrArg List.length e1;rw[e3]at hlen;simp only[Qm,Array.length_toList]at hlen;refine⟨p1++p2,(q2++q1).take xs.length,(q2++q1).drop xs.length,?_,by simp[e2,e4],?_⟩
   .rw[e1,e3,List.append_assoc _ (List.take _ _),List.take_append_drop];simp
   .rw[List.length_take];apply Nat.min_eq_left;simp only[Qm];omega
  obtain⟨pre,aI,post,Y8,Y1,sf⟩:=hxat;have Zx:=FI xs cc ((C.a b).a+off+len*sz) (pre++y) aI post Y8 (by simp[Y1,hyl]) sf;refine .J (vs:=y++xs) ((hy.u hn).z ZK) ?_ ?_ ((hco WS).append qp) (by rw[DC];exact hf) (fun h=>by cases h)
  .rw[Bk,Zx];exact⟨pre,post,by simp,Y1⟩
  .rw[Bk,DC];exact X2
 .have:=VR.O (C:=C.A S.a ⟨(C.a b).b,(C.a b).a+off,(C.a b).c⟩) (b:=S.a) (off:=0) (len:=len+n) (sz:=sz) (cap:=none) (c:=c) (IJ _ _ _)
   (by simp only[qG,Bk];exact⟨by simpa using YM,na⟩) a9
  rw[Bk]at this;exact this
end
section
variable {E : c_} {P : Program} (he : Wd E P)
theorem Vx (w:World):w.drew.heap=w.heap:=rfl
structure sg (P:Program) (e:TypeId) (sz VZ n:Nat) (xs:List Value) (z:Array Value) (x:Value) (R:Sem Value) (w:World):Prop where
 b:∀a len cap w',x= .slice a len cap->len+n<=cap->cu P a (len*sz) xs w w'->
  R.run P w= .ok (.slice a (len+n) cap) w'
 c:∀a len cap ZO,x= .slice a len cap->cap<len+n->k7 (len+n) VZ=true->n≠0->(Builtin.firstCells sz len x).run P w.drew= .ok ZO w.drew->
  R.run P w= .ok (.slice (some ⟨w.heap.size,0,none⟩) (len+n) (grownCap w (len+n) cap e))
   (w.drew.alloc (.cells (ZO++(xs.toArray++Builtin.zeroCells z (grownCap w (len+n) cap e-(len+n)))) e))
theorem SK {sz len n:Nat} {cap:Option Nat} {l:List AV} (h:jS sz len n cap l=true):match cap with|some c=>len+n<=c|none=>(len+n)*sz<=l.length:=by
 cases cap with
 |some c=>exact Qc h
 |none=>have:=Qc h;simpa using this
theorem Vp {sz len n:Nat} {cap:Option Nat} {l:List AV} (h:jS sz len n cap l=false):∀c,cap=some c->c<len+n:=by grind [jS,Qd]
theorem JZ {C:Cx} {S S':St} {w:World} (hS:WW C S w) {e:TypeId} {sz VZ n:Nat} (na:sz≠0) {new:List AV} {xs:List Value} {z:Array Value} {v r:AV} {x:Value} {R:Sem Value}
 (hv:VR C v x) (hn:Wx C new xs) (qp:j_ new) (uR:xs.length=n*sz) (hz:z.size=sz) (hR:sg P e sz VZ n xs z x R w)
 (h:CP S e sz VZ new n v=some (r,S')):∃C' y w',R.run P w= .ok y w'/\CE C S w C' S' w'/\VR C' r y:=by
 have none_:∀a len cap,x= .slice a len cap->len<=cap->n=0->R.run P w= .ok x w:=by
  intro a len cap hx Zu h0;subst h0;have:xs=[]:=List.eq_nil_of_length_eq_zero (by simpa using uR);subst this;have:=hR.b a len cap w hx Zu (by cases a<;>simp[cu,storeCells]);rw[this,hx];rfl
 have bz:∀ {b:Bool} {A B:Option (AV×St)},(b=true->A=some (r,S')->∃C' y w',R.run P w= .ok y w'/\CE C S w C' S' w'/\VR C' r y)->
  (b=false->B=some (r,S')->∃C' y w',R.run P w= .ok y w'/\CE C S w C' S' w'/\VR C' r y)->(bif b then A else B)=some (r,S')->
  ∃C' y w',R.run P w= .ok y w'/\CE C S w C' S' w'/\VR C' r y:=by
  intro b A B ha hb h;cases b with
  |true=>exact ha rfl h
  |false=>exact hb rfl h
 have n0:Nat.beq n 0=false->n≠0:=by rintro h rfl;cases h
 have more_:∀ {S1:St},CE C S w C S1 w->∀ {nW:List AV} {ZO:List Value} {a:Option Addr} {len cap:Nat},x= .slice a len cap->cap<len+n->k7 (len+n) VZ=true->n≠0->
  Wx C nW ZO->j_ nW->ZO.length=len*sz->(Builtin.firstCells sz len x).run P w.drew= .ok ZO.toArray w.drew->
  r= .Z S1.a 0 (len+n) sz none->S'=S1.g (.J (nW++new) e true)->∃C' y w',R.run P w= .ok y w'/\CE C S w C' S' w'/\VR C' r y:=by
  intro S1 t1 nW ZO a len cap hx dk ao nh ho hco wi hfc hr uj;subst hr;subst uj;have CF:=hR.c a len cap ZO.toArray hx dk ao nh hfc;obtain⟨C',t,ug⟩:=more_ok (e:=e) t1.c ho hn hco qp hz (Nat.pos_of_ne_zero na) wi uR (grownCap_ge w (len+n) cap e);exact⟨C',_,_,CF,t1.u t,ug⟩
 have blocks:∀ {b off len c:Nat} {cap:Option Nat} {a:Addr},VR C (.Z b off len sz cap) x->x= .slice (some a) len c->C.D b->len<=c->
  (a=⟨(C.a b).b,(C.a b).a+off,none⟩\/(c=0/\cap=some 0))->
  (match cap with|some 0=>len=0/\(c=0\/(C.a b).a+off+c*sz=(C.a b).c)|some k=>c=k|none=>(C.a b).a+off+c*sz=(C.a b).c)->n≠0->k7 (len+n) VZ=true->
  aw S e sz new n b off len cap (S.b.g b)=some (r,S')->∃C' y w',R.run P w= .ok y w'/\CE C S w C' S' w'/\VR C' r y:=by
  intro b off len c cap a aJ hx hd Zu ha dk nh ao h;cases hb:S.b.g b with
  |none=>rw[hb]at h;simp[aw]at h
  |some ob=>
  rw[hb]at h;unfold aw at h;split at h
  .next cs e0 sl heq=>
   cases heq;unfold da at h;obtain⟨l,hl,h⟩:=Qa.1 h;revert h;refine bz ?_ ?_
   .
     intro hf h;obtain⟨Yg,hov,h⟩:=Qa.1 h;cases h;have hf':=SK hf;have hw:aT S b (off+len*sz) new=some (S.z b (some (.J Yg e0 sl))):=by grind [aT,fH,eT]
     obtain⟨w',CF,t,_⟩:=LW (P:=P) hS hn qp hw;obtain⟨_,c',ty,fr,vs,hx',Xr,Y0,X2,_,_⟩:=hS.u (b:=b) (cs:=cs) (by rw[hb];rfl);have hle:len+n<=c:=by
      cases cap with
      |some k=>grind
      |none=>
       simp only at hf' dk;obtain⟨pre,kE,Y1⟩:=BF hl;have h1:=Xr.g;have h2:=Y0.le;simp only[Array.length_toList]at h2;have h3:cs.length=off+l.length:=by rw[kE];simp[Y1]
       have:(len+n)*sz<=c*sz:=by omega
       exact Nat.le_of_mul_le_mul_right this (Nat.pos_of_ne_zero na)
     have ha':a=⟨(C.a b).b,(C.a b).a+off,none⟩:=by grind
     subst ha';refine⟨C,_,w',hR.b _ _ _ w' hx hle ?_,t,?_⟩
     .grind [cu,Bx,Nat.add_assoc]
     .refine .O hd ?_ hle;cases cap with
      |some k=>
       cases k with
       |zero=>simp only at hf';omega
       |succ k=>exact⟨dk,by omega⟩
      |none=>exact⟨dk,Nat.pos_of_ne_zero na⟩
   .
     intro hf;refine bz ?_ (fun _ h=>by cases h);intro hc h;obtain⟨nW,hold,h⟩:=Qa.1 h;cases h;have hcut:v_ cs off (len*sz)=some nW:=by unfold v_;rw[hl];exact hold
     have zB:Yd S sz (.Z b off len sz cap)=some (nW,len):=by simp_all [Yd,Ww]
     obtain⟨ZO,_,ho,hco,wi,hfc⟩:=Hf (P:=P) hS aJ zB;by_cases oy:len+n<=c
     .have htail:jT cap=true:=by
       cases cap with
       |none=>rfl
       |some k=>
        cases k with
        |zero=>rfl
        |succ k=>have:=Vp hf _ rfl;simp only at dk;omega
      have hee:e=e0:=by simp_all
      subst hee;have ha':a=⟨(C.a b).b,(C.a b).a+off,none⟩/\(C.a b).a+off+c*sz=(C.a b).c:=by
       cases cap with
       |none=>exact⟨ha.resolve_right (fun h=>by cases h.2),dk⟩
       |some k=>
        cases k with
        |zero=>grind
        |succ k=>cases htail
      obtain⟨rfl,YM⟩:=ha';obtain⟨C',w',CF,t,ug⟩:=wj (P:=P) hS hb hcut hn qp uR YM (Nat.pos_of_ne_zero na) oy;have Z6:cZ S b cap=S.z b none:=by unfold cZ;rw[htail];rfl
      rw[Z6];exact⟨C',_,w',hR.b _ _ _ w' hx oy (by simp only[cu,Bx];exact CF),t,ug⟩
     .have t1:CE C S w C (cZ S b cap) w:=by
       unfold cZ;cases jT cap with
       |true=>exact CE.O hS b
       |false=>exact CE.g hS
      refine more_ t1 hx (by omega) ao nh ho hco wi (hfc w.drew (Vx w)) ?_ U;unfold cZ;cases jT cap<;>rfl
  .cases h
 cases hv with
 |Ca a vZ=>
  simp only[CP]at h;revert h;refine bz ?_ ?_
  .intro h0 h;cases h;have:=Qb h0;exact⟨C,_,w,none_ a 0 0 U (Qj _) this,CE.g hS,.Ca a vZ⟩
  .intro h0;refine bz ?_ (fun _ h=>by cases h);intro ao h;cases h;refine more_ (CE.g hS) (ZO:=[]) (nW:=[]) U (by have:=n0 h0;omega) (by simpa using ao) (n0 h0) .O (fun _ h=>by cases h) (by simp) ?_ (by simp) (by simp);cases a with
   |none=>rfl
   |some a=>simp[Builtin.firstCells,loadCells,loadCellsFrom]
 |Xm a hl Zu=>
  simp only[CP]at h;revert h;refine bz ?_ (fun _ h=>by cases h);intro h0 h;cases h;have:=Qb h0;exact⟨C,_,w,none_ _ _ _ U Zu this,CE.g hS,.Xm a hl Zu⟩
 |Ck hl hm ha Xr hc WS Zu=>
  simp only[CP]at h;revert h;refine bz ?_ (fun _ h=>by cases h);intro h0 h;cases h;have:=Qb h0;exact⟨C,_,w,none_ _ _ _ U Zu this,CE.g hS,.Ck hl hm ha Xr hc WS Zu⟩
 |O hd hc Zu=>
  rename_i b off len Z5 cap c
  simp only[CP]at h;revert h;refine bz ?_ ?_
  .intro h0 h;cases h;have:=Qb h0;exact⟨C,_,w,none_ _ _ _ U Zu this,CE.g hS,.O hd hc Zu⟩
  .intro h0;refine bz ?_ (fun _ h=>by cases h);intro ao h;simp only[Qf]at ao;have hz':Z5=sz:=Qb ao.1;subst hz';refine blocks (.O hd hc Zu) U hd Zu (.inl U) ?_ (n0 h0) ao.2 h;cases cap with
   |none=>exact hc.1
   |some k=>
    cases k with
    |zero=>exact absurd hc.2 (Nat.lt_irrefl _)
    |succ k=>exact hc.1
 |XT vZ hd hc=>
  rename_i b off Z5 a c
  simp only[CP]at h;revert h;refine bz ?_ ?_
  .intro h0 h;cases h;have:=Qb h0;exact⟨C,_,w,none_ _ _ _ U (Qo _) this,CE.g hS,.XT vZ hd hc⟩
  .intro h0;refine bz ?_ (fun _ h=>by cases h);intro ao h;simp only[Qf]at ao;have hz':Z5=sz:=Qb ao.1;subst hz';refine blocks (.XT vZ hd hc) U hd (Qo _) ?_ ⟨rfl,hc.imp id (fun h=>h.2.1)⟩ (n0 h0) ao.2 h;rcases hc with h|h
   .exact .inr ⟨h,U⟩
   .exact .inl h.1
 |_=>simp[CP]at h
theorem Kq (z:Array Value) (n:Nat):(Builtin.zeroCells z n).toList=(List.replicate n z.toList).flatten:=Jg z n
include he
theorem Ny {t:TypeId} {z:AV} (e:h_ E t=some z):∃x,(∀w,(zeroValue t).run P w= .ok x w)/\(∀C,VR C z x):=by
 unfold h_ at e;cases hi:E.b.g t with
 |none=>rw[hi]at e;cases e
 |some i=>
  rw[hi]at e;simp only at e;cases hz:i.zero with
  |none=>rw[hz]at e;cases e
  |some x=>
   rw[hz]at e;exact⟨x,fun w=>by simp[zeroValue,BA he hi,hz],fun C=>Mu (Fs e).1⟩
theorem Ux {o:Oper} {c:Call} {sT:TypeId} {ts:List TypeId} {x y:Operand} (ho:o.op= .call c) (hc:c.callee= .builtin .append) (fT:c.argTypes.toList=sT::ts) (gu:c.args.toList=[x,y]):
 W5 E P o (aU E sT ts.head? x y):=by
 unfold aU;split
 .next e hu=>
  split
  .next sz VZ z X2 cQ hz=>
   cases hb:(!(Nat.beq (Xu z.g) sz)||Nat.beq sz 0|| !(ZY E ts.head?))with
   |true=>exact W5.bad
   |false=>
   simp only[cond_false];rw[Bool.or_eq_false_iff,Bool.or_eq_false_iff]at hb;have hzs:∀u,ts.head?=some u->∃d,Wb E u=some d:=by
    intro u hu;have h2:=hb.2;rw[hu]at h2;simp only[ZY,Bool.not_eq_false']at h2;cases hd:Wb E u with
    |none=>rw[hd]at h2;cases h2
    |some d=>exact⟨d,rfl⟩
   replace hb:=hb.1;have vP:z.g.length=sz:=by simp_all
   have na:sz≠0:=by rintro rfl;simp at hb
   obtain⟨zv,uQ,kZ⟩:=Ny he hz;have hzsz:zv.cells.size=sz:=by have:=(kZ ⟨fun _=>⟨0,0,0⟩,fun _=>none,fun _=>False,fun _ _=>0,fun _ _=>False,fun _=>False⟩).u.g;simpa[vP]using this
   have nj:c.argTypes[0]?=some sT:=by rw[<-Array.getElem?_toList,fT];rfl
   have hts1:c.argTypes.toList.tail.head?=ts.head?:=by rw[fT];rfl
   have hts2:∀u,c.argTypes[1]?=some u->∃d,Wb E u=some d:=by grind [List.head?_eq_getElem?]
   have Xx:∀ρ:Operand->Value,c.args.map ρ= #[ρ x,ρ y]:=by
    intro ρ;apply Array.ext';simp[gu]
   have du:∀(ρ:Operand->Value) (w:World),(execOp ρ o).run P w=(do pure (Next.value (<-Builtin.append_ c.argTypes o.type #[ρ x,ρ y])):Sem Next).run P w:=by
    intro ρ w;simp[execOp,ho,resolve,hc,invoke,builtin,Xx]
   have slc:∀ {C:Cx} {S:St} {v:AV} {r:AV×St} {new:List AV} {n:Nat} {xv:Value},VR C v xv->CP S e sz VZ new n v=some r->∃a l k,xv= .slice a l k:=by
    intro C S v r new n xv hv h;cases hv with
    |Ca|Xm|Ck|O|XT=>exact⟨_,_,_,rfl⟩
    |_=>simp[CP]at h
   cases hzb:Xw E ts.head? with
   |true=>
    simp only[cond_true];intro C T a S w hg hT hS v S' h;obtain⟨av,jW,h⟩:=Qa.1 h;obtain⟨bv,uS,h⟩:=Qa.1 h;obtain⟨p,hp,h⟩:=Qa.1 h;obtain⟨n,hn,hp⟩:=Qa.1 hp;cases hle:Nat.ble n 1048576 with
    |false=>rw[hle]at hp;cases hp
    |true=>
    rw[hle]at hp;cases hp;have hn':=Qc hle;obtain⟨k,hk⟩:=FL (Al hg hT uS) hn;have aJ:=Al hg hT jW;obtain⟨sa,sl,sc,rJ⟩:=slc aJ h;have hb4:n=0\/VZ<=1048576:=by
     by_cases h0:n=0
     .exact .inl h0
     .right;have wo:Nat.beq n 0=false:=by cases n with|zero=>exact absurd rfl h0|succ n=>rfl
      cases av with
      |Ca=>
       simp only[CP,wo,cond_false]at h;cases ao:k7 n VZ with
       |false=>rw[ao]at h;cases h
       |true=>exact(Df ao).2.2.2
      |Z b off len Z5 cap=>
       simp only[CP,wo,cond_false]at h;cases ao:k7 (len+n) VZ with
       |false=>rw[ao]at h;simp at h
       |true=>exact(Df ao).2.2.2
      |Ck cs l s cl=>simp[CP,wo]at h
      |_=>simp[CP]at h
    have hR:sg P e sz VZ n (Builtin.zeroCells zv.cells n).toList zv.cells (a.eval x) (Builtin.append_ c.argTypes o.type #[a.eval x,a.eval y]) w:=by
     rw[hk];refine⟨fun a' len cap w' hx a9 XM=>?_,fun a' len cap ZO hx dk ao nh ho=>?_⟩
     .grind [Jd]
     .rw[hx];have:=Iz he (k:=k) (ty:=o.type) nj hu X2 cQ (by rw[hts1];exact hzb) hn' uQ (ZO:=ZO.toList) (by rw[<-hx];simpa using ho) dk ao na nh;simpa using this
    have hrep:=(kZ C).u.G n;obtain⟨C',q,w',CF,t,ug⟩:=JZ (P:=P) hS na aJ (xs:=(Builtin.zeroCells zv.cells n).toList) (by rw[Kq];exact hrep) (((kZ C).A (Dp hz)).repeat n)
     (by simp[Gh,hzsz]) hzsz hR h
    exact⟨C',_,w',by rw[du];simp[CF],t,.J ug⟩
   |false=>
    simp only[cond_false];intro C T a S w hg hT hS v S' h;obtain⟨av,jW,h⟩:=Qa.1 h;obtain⟨bv,uS,h⟩:=Qa.1 h;obtain⟨p,hp,h⟩:=Qa.1 h;have aJ:=Al hg hT jW;obtain⟨xs,hl,Xr,WS,uR,hfc⟩:=O7 (P:=P) hS (Al hg hT uS) hp;have hR:sg P e sz VZ p.2 xs zv.cells (a.eval x) (Builtin.append_ c.argTypes o.type #[a.eval x,a.eval y]) w:=by
     refine⟨fun a' len cap w' hx a9 XM=>?_,fun a' len cap ZO hx dk ao nh ho=>?_⟩
     .rw[hx];exact Kw he nj hu X2 (by rw[hts1];exact hzb) hl (hfc w U) a9 hts2 XM
     .rw[hx];have:=Jc he (ty:=o.type) nj hu X2 cQ (by rw[hts1];exact hzb) hl (hfc w.drew rfl) (ZO:=ZO.toList) (by rw[<-hx];simpa using ho) uQ dk ao hts2;simpa using this
    obtain⟨C',q,w',CF,t,ug⟩:=JZ (P:=P) hS na aJ Xr WS uR hzsz hR h;exact⟨C',_,w',by rw[du];simp[CF],t,.J ug⟩
  .exact W5.bad
 .exact W5.bad
end
section
variable {E : c_} {P : Program}
theorem Gq {C:Cx} {S:St} {w:World} (hS:WW C S w) {v:AV} {x:Value} (hv:VR C v x) {sz:Nat} {p:List AV×Nat} (e:CY S sz v=some p) {m:Nat} (hm:m<=p.2)
 {l:List AV} (hl:pa (m*sz) p.1=some l):
 ∃xs,(Builtin.lenOf x).run P w= .ok p.2 w/\Wx C l xs/\j_ l/\xs.length=m*sz/\(Builtin.firstCells sz m x).run P w= .ok xs.toArray w:=by
 obtain⟨post,hp,ui⟩:=BS hl;unfold CY at e;split at e
 .next b=>
  cases hb:Nat.beq sz 1 with
  |false=>rw[hb]at e;cases e
  |true=>
   rw[hb]at e;cases e;have:sz=1:=Qb hb;subst this;cases hv with
   | @an _ l' s hs=>
   obtain⟨b1,b2,b3⟩:=FA (C:=C) b;simp only at hp;rw[hp]at b1 b2;obtain⟨y,z,hyz,h1,h2⟩:=AB b1;refine⟨y,by simp[Builtin.lenOf,<-hs],h1,b2.sub.1,h1.g.trans ui,?_⟩;have hy:y=(b.take m).map fun c=>Value.int .u8 c.toNat:=by
    have hyl:y.length=m:=by rw[h1.g,ui,Nat.mul_one]
    rw[List.map_take,hyz,<-hyl];simp
   subst hs;rw[hy];simp[Builtin.firstCells];apply Array.ext';simp
 .obtain⟨a,c,vs,rfl,Xr,WS,hlen,ox,eu⟩:=GC hS hv e;rw[hp]at Xr WS;obtain⟨y,z,rfl,h1,h2⟩:=AB Xr;refine⟨y,U,h1,WS.sub.1,h1.g.trans ui,?_⟩;cases a with
  |none=>
   have:=eu rfl;simp only[List.append_eq_nil_iff]at this;rw[this.1];rfl
  |some ad=>
   refine Jb (fun j v hj=>ox ad U j v ?_) _ (h1.g.trans ui);have C5:j<y.length:=by
    rcases Nat.lt_or_ge j y.length with h|h
    .exact h
    .rw[List.getElem?_eq_none h]at hj;cases hj
   rw[List.getElem?_append_left C5];exact hj
theorem T9 {w w':World} {a:Addr} (h:(storeCells a []).run P w= .ok () w'):w'=w:=by
 simp[storeCells]at h;exact h.symm
theorem Md {C:Cx} {S S':St} {w:World} (hS:WW C S w) {b off len sz:Nat} {cap:Option Nat} {x:Value} (hv:VR C (.Z b off len sz cap) x) {vs:List AV} {xs:List Value} (Xr:Wx C vs xs)
 (hc:j_ vs) (h0:len=0->vs=[]) (e:aT S b off vs=some S'):∃a c w',x= .slice (some a) len c/\(storeCells a xs).run P w= .ok () w'/\CE C S w C S' w':=by
 obtain⟨w',CF,t,_⟩:=LW (P:=P) hS Xr hc e;cases hv with
 |O hd dk Zu=>exact⟨_,_,w',rfl,CF,t⟩
 |XT hxx hd dk=>
  have:=h0 rfl;subst this;cases Xr;cases T9 CF;exact⟨_,_,_,U,by simp[storeCells],t⟩
variable (he : Wd E P)
include he
omit he in
theorem V1 {o:Oper} {c:Call} {x y:Operand} (ho:o.op= .call c) (hc:c.callee= .builtin .copy) (gu:c.args.toList=[x,y]) (ρ:Operand->Value) (w:World):
 (execOp ρ o).run P w=(do pure (Next.value (<-Builtin.copy_ c.argTypes o.type #[ρ x,ρ y])):Sem Next).run P w:=by
 have Xx:c.args.map ρ= #[ρ x,ρ y]:=by apply Array.ext';simp[gu]
 simp[execOp,ho,resolve,hc,invoke,builtin,Xx]
theorem ok_copy {o:Oper} {c:Call} {t:TypeId} {ts:List TypeId} {x y:Operand} (ho:o.op= .call c) (hc:c.callee= .builtin .copy) (fT:c.argTypes.toList=t::ts) (gu:c.args.toList=[x,y]):
 W5 E P o (lD E t x y):=by
 unfold lD;split
 .next e hu=>
  split
  .next sz X2=>
   have nj:c.argTypes[0]?=some t:=by rw[<-Array.getElem?_toList,fT];rfl
   intro C T a S w hg hT hS v S' h;obtain⟨av,jW,h⟩:=Qa.1 h;obtain⟨bv,uS,h⟩:=Qa.1 h;obtain⟨p,hp,h⟩:=Qa.1 h;have aJ:=Al hg hT jW;have ir:=Al hg hT uS;have CF:∀(ba:Option Addr) (dl k n:Nat) (xs:List Value) (w':World),a.eval x= .slice ba dl k->(Builtin.lenOf (a.eval y)).run P w= .ok n w->(Builtin.firstCells sz (Nat.min n dl) (a.eval y)).run P w= .ok xs.toArray w->
    (match ba with|some ad=>(storeCells ad xs).run P w= .ok () w'|none=>w'=w)->(execOp a.eval o).run P w= .ok (.value (goInt (Nat.min n dl:Nat))) w':=by
    intro ba dl k n xs w' hx hn hf XM;rw[V1 ho hc gu,hx];cases ba with
    |none=>subst XM;simp[Builtin.copy_,nj,Ag he hu,A1 he X2,hn,hf]
    |some ad=>simp only at XM;simp[Builtin.copy_,nj,Ag he hu,A1 he X2,hn,hf,XM]
   cases av with
   |Z b off len Z5 cap=>
    simp only[F_]at h;cases hb:Nat.beq Z5 sz with
    |false=>rw[hb]at h;cases h
    |true=>
    rw[hb]at h;have:=Qb hb;subst this;simp only[cond_true]at h;obtain⟨l,hl,h⟩:=Qa.1 h;obtain⟨s',hs',h⟩:=Qa.1 h;cases h;obtain⟨xs,hlen,Xr,WS,uR,hf⟩:=Gq (P:=P) hS ir hp (Nat.min_le_left _ _) hl;obtain⟨ad,cc,w',hx,XM,t⟩:=Md (P:=P) hS aJ Xr WS (by
     rintro rfl;have:=(BS hl).choose_spec.2;simpa using this) hs'
    exact⟨C,_,w',CF _ _ _ _ xs w' hx hlen hf XM,t,.J (.int _ _)⟩
   |Ca=>
    cases h;generalize hq:a.eval x=q at aJ;cases aJ with
    |Ca ba=>
    obtain⟨xs,hlen,Xr,WS,uR,hf⟩:=Gq (P:=P) hS ir hp (m:=Nat.min p.2 0) (Nat.min_le_left _ _) (l:=[]) (by rw[show Nat.min p.2 0=0 from Nat.min_zero _,Nat.zero_mul];rfl);have:xs=[]:=List.eq_nil_of_length_eq_zero (by simpa using uR);subst this;have:=CF ba 0 0 _ [] w hq hlen hf (by cases ba<;>simp[storeCells]);exact⟨C,_,w,this,CE.g hS,.J (by simpa[goInt]using VR.int (C:=C) .i64 0)⟩
   |_=>simp[F_]at h
  .exact W5.bad
 .exact W5.bad
omit he in
omit he in
theorem KG {o:Option St} {r:AV×St} (h:eU o=some r):∃s,o=some s/\r=(.Y [],s):=by
 cases o with
 |none=>cases h
 |some s=>cases h;exact⟨s,rfl,rfl⟩
omit he in
theorem VR.z {C:Cx}:VR C (.Y []) (.tuple #[]):= .J (by simpa using Wx.O)
omit he in
theorem DA {w:World} {r:Nat} {x o:Obj} (h:w.heap[r]?=some x) (hc:∀c e f,x≠ .cells c e f):(setObj r o).run P w= .ok () (e_.g w r o):=by
 unfold setObj;simp only[Sem.run,h];cases x with
 |cells c e f=>exact absurd rfl (hc c e f)
 |_=>rfl
end
theorem ES {C C':Cx} {a:AV} {x y:Value} (h:cj a=true) (hx:VR C a x) (hy:VR C' a y):x=y:=by
 cases a with
 |int k n=>cases hx;cases hy;rfl
 |bool b=>cases hx;cases hy;rfl
 |aG l=>
  cases hx with
  | @an _ _ s hs=>
  cases hy with
  | @an _ _ s' hs'=>
  have:s=s':=ByteArray.ext (Array.ext' (hs.trans hs'.symm));rw[this]
 |_=>cases h
theorem Il {C C':Cx}:∀ {l:List AV} {xs ys:List Value},l.all cj=true->Wx C l xs->Wx C' l ys->xs=ys
 | [],_,_,_,.O,.O=>rfl
 |_::_,_,_,h,.J h1 t1,.J h2 t2=>by
  simp only[List.all_cons,Qf]at h;rw[ES h.1 h1 h2,Il h.2 t1 t2]
theorem UD {C C':Cx} {a:AV} {x y:Value} (h:iG a=true) (hx:VR C a x) (hy:VR C' a y):x=y:=by
 cases a with
 |O cs=>
  cases hx with
  |a_ h1 _=>
  cases hy with
  |a_ h2 _=>rw[Array.ext' (Il h h1 h2)]
 |int k n=>exact ES rfl hx hy
 |bool b=>exact ES rfl hx hy
 |aG l=>exact ES rfl hx hy
 |_=>cases h
theorem wq (a b:ByteArray):(a==b)=(a.data==b.data):=rfl
theorem D4 {C:Cx} {a:AV} {x:Value} (h:cj a=true) (hx:VR C a x) (n:Nat):Instr.sameBits n x x=true:=by
 cases a with
 |int k n=>cases hx;simp[Instr.sameBits]
 |bool b=>cases hx;simp[Instr.sameBits]
 |aG l=>cases hx;simp[Instr.sameBits,wq]
 |_=>cases h
theorem Gj {C:Cx} (n:Nat):∀ {l:List AV} {xs:List Value},l.all cj=true->Wx C l xs->((xs.zip xs).all fun(x,y)=>Instr.sameBits n x y)=true
 | [],_,_,.O=>rfl
 |_::_,_,h,.J h1 t1=>by
  simp only[List.all_cons,Qf]at h;simp only[List.zip_cons_cons,List.all_cons,Qf];exact⟨D4 h.1 h1 n,Gj n h.2 t1⟩
theorem Po {C:Cx} {a:AV} {x:Value} (h:iG a=true) (hx:VR C a x) (n:Nat):Instr.sameBits (n+1) x x=true:=by
 cases a with
 |O cs=>
  cases hx with
  |a_ h1 _=>
   simp only[Instr.sameBits,Qf,beq_self_eq_true,true_and];exact Gj n h h1
 |int k n=>exact D4 rfl hx _
 |bool b=>exact D4 rfl hx _
 |aG l=>exact D4 rfl hx _
 |_=>cases h
theorem wu {P:Program} {x:Value} {w:World} (h:Instr.sameBits 10000 x x=true):(Instr.keyThatStays x x).run P w= .ok x w:=by
 simp[Instr.keyThatStays,h]
theorem L5:∀ {l:List TypeDesc} {a b:List AV} {r:Bool},ZV l a b=some r->(r=true↔a=b)
 | [],[],[],r,h=>by cases h;simp
 |d::l,a::x,b::y,r,h=>by
  simp only[ZV]at h;obtain⟨q,hq,h⟩:=Qa.1 h;obtain⟨e1,_⟩:=Vt hq;cases q with
  |true=>
   have:=L5 (l:=l) h;have hab:=e1.1 rfl;rw[this];simp[hab]
  |false=>simp_all
 | [],[],_::_,_,h=>by simp[ZV]at h
 | [],_::_,_,_,h=>by simp[ZV]at h
 |_::_,[],_,_,h=>by simp[ZV]at h
 |_::_,_::_,[],_,h=>by simp[ZV]at h
theorem El {kd:Kd} {a b:AV} {r:Bool} (h:cG kd a b=some r):r=true↔a=b:=by
 cases kd with
 |J d=>exact(Vt h).1
 |O l=>
  cases a<;>cases b<;>simp only[cG]at h<;>try (cases h;done)
  rw[L5 h];simp
theorem FT {kd:Kd} {k:AV}:∀ {es:List XA} {r:Option XA},Yo kd k es=some r->
 (∀e∈es,∃b,cG kd k e.1=some b)/\(r=none->∀e∈es,cG kd k e.1=some false)/\(∀e,r=some e->e∈es/\cG kd k e.1=some true)
 | [],r,h=>by cases h;simp
 |e::es,r,h=>by
  simp only[Yo]at h;obtain⟨b,hb,h⟩:=Qa.1 h;obtain⟨q,hq,h⟩:=Qa.1 h;obtain⟨h1,h2,h3⟩:=FT hq;refine⟨?_,?_,?_⟩
  .intro e' ZK;rcases Qk.1 ZK with rfl|ZK
   .exact⟨b,hb⟩
   .exact h1 e' ZK
  .grind
  .grind
theorem Bh {α β:Type} {f:α->β}:∀ {l:List α},(l.map f).Nodup->∀ {x y:α},x∈l->y∈l->f x=f y->x=y
 |a::l,h,x,y,hx,hy,e=>by
  simp only[List.map_cons,List.nodup_cons]at h;rcases Qk.1 hx with hx'|hx'
  .grind
  .rcases Qk.1 hy with uL|uL
   .grind
   .exact Bh h.2 hx' uL e
theorem Fq {α β:Type} {f:α->β}:∀ {l:List α},(l.map f).Nodup->l.Nodup
 | [],_=>List.nodup_nil
 |a::l,h=>by
  simp only[List.map_cons,List.nodup_cons]at h;exact List.nodup_cons.2 ⟨fun hx=>h.1 (List.mem_map.2 ⟨a,hx,rfl⟩),Fq h.2⟩
theorem WT.z {C:Cx} {b:Nat} {es:List XA} {l:List MapEntry} (h:WT C b es l):l.map (·.born)=(es.map (·.2.2)).map (C.b b):=by
 induction h with
 |O=>rfl
 |J _ _ _ hn _ ih=>simp[hn,ih]
theorem WT.g {C:Cx} {b:Nat} {es:List XA} {l:List MapEntry} (h:WT C b es l) {e:XA} (he:e∈es):
 ∃m∈l,VR C e.1 m.key/\VR C e.2.1 m.val/\C.G b e.2.2/\m.born=C.b b e.2.2:=by
 induction h with
 |O=>cases he
 |J hk hv hg hn _ ih=>grind
theorem WT.A {C:Cx} {b:Nat} {es:List XA} {l:List MapEntry} (h:WT C b es l) {m:MapEntry} (hm:m∈l):
 ∃e∈es,VR C e.1 m.key/\VR C e.2.1 m.val/\C.G b e.2.2/\m.born=C.b b e.2.2:=by
 induction h with
 |O=>cases hm
 |J hk hv hg hn _ ih=>
  rcases Qk.1 hm with rfl|hm
  .simp_all
  .grind
def cw (n:Nat):List MapEntry->Nat->Option (Nat×Value)
 | [],_=>none
 |e::es,i=>if e.born=n then some (i,e.val)else cw n es (i+1)
theorem L4 {n:Nat}:∀ {l:List MapEntry} {i:Nat},(∀m∈l,m.born≠n)->cw n l i=none
 | [],_,_=>rfl
 |a::l,i,h=>by simp_all [cw,Qh,L4,Qg]
theorem L0 {n:Nat}:∀ {l:List MapEntry} {i:Nat},(∃m∈l,m.born=n)->∃j m,l[j]?=some m/\m.born=n/\cw n l i=some (i+j,m.val)
 | [],_,h=>by obtain⟨_,h,_⟩:=h;cases h
 |a::l,i,h=>by
  by_cases ha:a.born=n
  .exact⟨0,a,U,ha,by simp[cw,ha]⟩
  .obtain⟨m,hm,hn⟩:=h;have mN:m∈l:=(Qk.1 hm).resolve_left (fun e=>ha (e▸hn));obtain⟨j,m',h1,h2,h3⟩:=L0 (i:=i+1) ⟨m,mN,hn⟩;refine⟨j+1,m',by simpa using h1,h2,?_⟩;simp only[cw,if_neg ha,h3]
   congr 2;omega
section
variable {E : c_} {P : Program}
theorem KR {α:Type} (a:α):∀n,(J' a n).length=n
 |0=>rfl
 |n+1=>by simp[J',KR a n]
theorem Eu {α:Type} {w:World} {f:α->PUnit->Sem (ForInStep PUnit)}:∀ {l:List α},(∀x∈l,(f x ⟨⟩).run P w= .ok (.yield ⟨⟩) w)->(forIn l PUnit.unit f).run P w= .ok ⟨⟩ w
 | [],_=>by simp
 |a::l,h=>by simp_all [List.forIn_cons,Qh,Eu,Qg]
variable (he : Wd E P)
include he
theorem DY {t:TypeId} {d:TypeDesc} (hu:Wb E t=some d) (hs:ai d=true) (empty:Bool) (n:Nat) (x:Value) (w:World):(Instr.checkKey empty (n+1) t x).run P w= .ok () w:=by
 unfold Instr.checkKey;simp only[Sem.run_bind,Ag he hu,Result.andThen_ok];cases d<;>first|rfl|cases hs
theorem Qr {t:TypeId} {kd:Kd} (hk:aF E t=some kd) {C:Cx} {a:AV} {x:Value} (ha:VR C a x) (WO:fZ kd a=true) (empty:Bool) (n:Nat) (w:World):
 (Instr.checkKey empty (n+2) t x).run P w= .ok () w:=by
 rcases E6 hk with⟨fs,l,hu,hl,Y1,rfl⟩|⟨m,e,d,hu,hd,hs,rfl⟩|⟨d,hu,hs,rfl⟩
 .cases ha<;>simp only[fZ]at WO<;>try (cases WO;done)
  rename_i cs xs WS Xr
  unfold Instr.checkKey;simp only[Sem.run_bind,Ag he hu,Result.andThen_ok];rw[<-Array.forIn_toList,Eu]
  .rfl
  intro f hf;obtain⟨j,hj⟩:=List.getElem?_of_mem hf;obtain⟨hlen,ZP⟩:=dn hl;obtain⟨d,zF,hoff,lU,zB⟩:=ZP j f hj;obtain⟨h1,h2⟩:=Bg zB;have C5:j<cs.length:=by
   have:=(EO WO).2;have hjl:j<fs.toList.length:=by grind
   omega
  obtain⟨y,hy,_⟩:=Dg (P:=P) he zB Xr (Qi C5) w;have hoff':f.offset=j:=by omega
  simp only[ne_eq,lU,not_false_eq_true,if_true,Sem.run_bind,hoff',hy,Result.andThen_ok,DY he h1 h2,Sem.run_pure]
 .cases ha<;>simp only[fZ]at WO<;>try (cases WO;done)
  rename_i cs xs WS Xr
  unfold Instr.checkKey;simp only[Sem.run_bind,Ag he hu,Result.andThen_ok];rw[Std.Legacy.Range.forIn_eq_forIn_range',Eu]
  .rfl
  intro j hj;have hjm:j<m:=by simpa[Std.Legacy.Range.size]using hj
  obtain⟨h1,h2⟩:=Bg hd;have C5:j<cs.length:=by
   have:=(EO WO).2;rw[KR]at this;omega
  obtain⟨y,hy,_⟩:=Dg (P:=P) he hd Xr (Qi C5) w;simp only[Sem.run_bind,A1 he hs,Nat.mul_one,hy,Result.andThen_ok,DY he h1 h2,Sem.run_pure]
 .grind [DY]
theorem Hg {t:TypeId} {kd:Kd} (hk:aF E t=some kd) {C:Cx} {k:AV} {kx:Value} (ha:VR C k kx) {n:Nat} {w:World}:∀ {L:List MapEntry} {i:Nat},
 (∀m∈L,∃a b,VR C a m.key/\cG kd k a=some b/\(b=true↔m.born=n))->(Instr.findAsking t kx L i).run P w= .ok (cw n L i) w
 | [],_,_=>rfl
 |m::L,i,h=>by
  obtain⟨a,b,h1,h2,h3⟩:=h m (Qh ..);have hb:(Op.equal t kx m.key).run P w= .ok b w:=Vs he hk ha h1 h2 9998 w;unfold Instr.findAsking;simp only[Sem.run_bind,hb,Result.andThen_ok];cases b with
  |true=>simp[cw,h3.1 rfl]
  |false=>
   have:m.born≠n:=fun e=>by have:=h3.2 e;cases this
   simp only[Bool.false_eq_true,if_false,cw,this];exact Hg hk ha fun m hm=>h m (Qg _ hm)
omit he in
theorem RY {d:TypeDesc} {C C':Cx} {a b:AV} {x y:Value} (ha:VR C a x) (hb:VR C' b y) {r:Bool} (h:ud d a b=some r):Instr.sameNow d x y=some r:=by
 unfold ud at h;split at h
 .cases ha;cases hb;cases h;rename_i p q
  cases p<;>cases q<;>rfl
 .cases ha;cases hb;split at h
  .next hk=>cases h;subst hk;simp only[Instr.sameNow,if_true,Option.some.injEq];rw[Bool.eq_iff_iff];simp
  .cases h
 .cases h;cases ha with
  |an ha=>
  cases hb with
  |an hb=>
  simp only[Instr.sameNow,wq,Bc,<-ha,<-hb,Option.some.injEq];rw[Bool.eq_iff_iff];simp
 .cases h
omit he in
theorem JK {d:TypeDesc} {C:Cx} {k:AV} {kx:Value} (ha:VR C k kx) {n:Nat}:∀ {L:List MapEntry} {i:Nat},
 (∀m∈L,∃a b,VR C a m.key/\ud d k a=some b/\(b=true↔m.born=n))->Instr.findNow d kx L i=some (cw n L i)
 | [],_,_=>rfl
 |m::L,i,h=>by
  obtain⟨a,b,h1,h2,h3⟩:=h m (Qh ..);unfold Instr.findNow;rw[RY ha h1 h2];cases b with
  |true=>simp[cw,h3.1 rfl]
  |false=>
   have:m.born≠n:=fun e=>by have:=h3.2 e;cases this
   simp only[cw,this,if_false];exact JK ha fun m hm=>h m (Qg _ hm)
omit he in
theorem Om {d:TypeDesc} (hd:ai d=false) {kx:Value} {L:List MapEntry} {i:Nat} {r} (h:Instr.findNow d kx L i=some r):L=[]/\r=none:=by
 cases L with
 |nil=>cases h;exact⟨rfl,rfl⟩
 |cons m L=>
  exfalso;unfold Instr.findNow at h;have:Instr.sameNow d kx m.key=none:=by
   unfold Instr.sameNow;cases d<;>first|rfl|cases hd
  rw[this]at h;cases h
theorem HN {t:TypeId} {kd:Kd} (hk:aF E t=some kd) {C:Cx} {k:AV} {kx:Value} (ha:VR C k kx) {n:Nat} {w:World} {L:List MapEntry}
 (h:∀m∈L,∃a b,VR C a m.key/\cG kd k a=some b/\(b=true↔m.born=n)):(Instr.findKey t kx L).run P w= .ok (cw n L 0) w:=by
 have flat:∀ {d:TypeDesc},Wb E t=some d->ai d=false->(Instr.findKey t kx L).run P w= .ok (cw n L 0) w:=by
  intro d hu hs;simp only[Instr.findKey,Sem.run_bind,Ag he hu,Result.andThen_ok];split
  .next r hr=>
   obtain⟨rfl,rfl⟩:=Om hs hr;rfl
  .exact Hg he hk ha h
 rcases E6 hk with⟨fs,l,hu,hl,Y1,rfl⟩|⟨m,e,d,hu,hd,hs,rfl⟩|⟨d,hu,hs,rfl⟩
 .exact flat hu U
 .exact flat hu U
 .simp only[Instr.findKey,Sem.run_bind,Ag he hu,Result.andThen_ok];rw[JK ha (d:=d) h];rfl
theorem J1 {t:TypeId} {kd:Kd} (hk:aF E t=some kd) {C:Cx} {k:AV} {kx:Value} (ha:VR C k kx) {w:World} {b clock:Nat} {es:List XA} {arr:Array MapEntry} {l:List MapEntry}
 (hm:iY C b es clock w arr l) {r:Option XA} (h:Yo kd k es=some r):
 (r=none->(∀w',(Instr.findKey t kx arr.toList).run P w'= .ok none w')/\∀e∈es,k≠e.1)/\
 (∀e,r=some e->e∈es/\k=e.1/\C.G b e.2.2/\∃i m,arr[i]?=some m/\m.key=kx/\VR C e.2.1 m.val/\m.born=C.b b e.2.2/\∀w',(Instr.findKey t kx arr.toList).run P w'= .ok (some (i,m.val)) w'):=by
 obtain⟨h1,h2,h3⟩:=FT h;refine⟨fun hr=>?_,fun e hr=>?_⟩
 .have Xo:=h2 hr;refine⟨fun w'=>?_,fun e ZK zG=>?_⟩
  .have C5:=hm.i.G hm.j;have hb:∀m∈arr.toList,m.born≠clock:=fun m mN=>Nat.ne_of_lt (C5 m (hm.a.mem_iff.2 mN));rw[HN he hk ha (n:=clock) (fun m mN=>?_),L4 hb];obtain⟨e,ZK,h4,h5,h6,h7⟩:=hm.i.A (hm.a.mem_iff.2 mN);exact⟨e.1,false,h4,Xo e ZK,by simp[hb m mN]⟩
  .grind [El]
 .obtain⟨XU,lV⟩:=h3 e hr;have zG:=(El lV).1 rfl;obtain⟨m,sf,h4,h5,h6,h7⟩:=hm.i.g XU;have key:∀m'∈arr.toList,∃a q,VR C a m'.key/\cG kd k a=some q/\(q=true↔m'.born=C.b b e.2.2):=by
   intro m' mN;obtain⟨e',ZK,g4,g5,g6,g7⟩:=hm.i.A (hm.a.mem_iff.2 mN);obtain⟨q,hq⟩:=h1 e' ZK;refine⟨e'.1,q,g4,hq,?_⟩;have XM:(es.map (·.2.2)).Nodup:=by
    have:=hm.c;rw[hm.i.z]at this;exact Fq this
   rw[El hq,zG,g7];constructor
   .intro hee;have:=Bh hm.e.2 XU ZK hee;rw[this]
   .intro hgg;have:=hm.inj _ _ g6 h6 hgg;rw[Bh XM XU ZK this.symm]
  obtain⟨i,m',g1,g2,g3⟩:=L0 (n:=C.b b e.2.2) (l:=arr.toList) (i:=0) ⟨m,hm.a.mem_iff.1 sf,h7⟩;have zA:m'=m:=by
   have:m'∈l:=hm.a.mem_iff.2 (List.mem_of_getElem? g1);exact Bh hm.c this sf (g2.trans h7.symm)
  subst zA;have WO:iG e.1=true:=hm.e.1 e XU;refine⟨XU,zG,h6,i,m',by simpa using g1,UD WO h4 (by rw[<-zG];exact ha),h5,h7,fun w'=>?_⟩;rw[HN he hk ha key,g3];simp
end
theorem UL {α β:Type} {f:α->β}:∀ {l:List α},(l.map f).Nodup->∀ {i j:Nat} {a b:α},l[i]?=some a->l[j]?=some b->f a=f b->i=j
 | [],_,i,_,_,_,h,_,_=>by simp at h
 |c::l,hn,0,0,_,_,_,_,_=>rfl
 |c::l,hn,0,j+1,a,b,h1,h2,e=>by
  simp only[List.map_cons,List.nodup_cons]at hn;simp at h1 h2;subst h1;exact absurd (List.mem_map.2 ⟨b,List.mem_of_getElem? h2,e.symm⟩) hn.1
 |c::l,hn,i+1,0,a,b,h1,h2,e=>by
  simp only[List.map_cons,List.nodup_cons]at hn;simp at h1 h2;subst h2;exact absurd (List.mem_map.2 ⟨a,List.mem_of_getElem? h1,e⟩) hn.1
 |c::l,hn,i+1,j+1,a,b,h1,h2,e=>by
  simp only[List.map_cons,List.nodup_cons]at hn;exact congrArg (· +1) (UL (f:=f) (a:=a) (b:=b) hn.2 (by simpa using h1) (by simpa using h2) e)
def Yt (n:Nat) (f:MapEntry->MapEntry) (e:MapEntry):MapEntry:=if e.born=n then f e else e
theorem Jw {arr:Array MapEntry} (hn:(arr.toList.map (·.born)).Nodup) {i:Nat} {m:MapEntry} (hi:arr[i]?=some m) (f:MapEntry->MapEntry):
 (arr.modify i f).toList=arr.toList.map (Yt m.born f):=by
 apply List.ext_getElem?;intro j;rw[List.getElem?_map];simp only[Array.getElem?_toList,Array.getElem?_modify];split
 .next e=>subst e;rw[hi];simp[Yt]
 .next e=>
  cases hj:arr[j]? with
  |none=>rfl
  |some m'=>
   have:m'.born≠m.born:=fun hb=>e (UL (f:=MapEntry.born) hn (a:=m) (b:=m') (by simpa using hi) (by simpa using hj) hb.symm);simp[Yt,this]
theorem SN {arr:Array MapEntry} (hn:(arr.toList.map (·.born)).Nodup) {i:Nat} {m:MapEntry} (hi:arr[i]?=some m):
 (arr.eraseIdxIfInBounds i).toList=arr.toList.filter (fun e=>e.born !=m.born):=by
 have key:∀(l:List MapEntry) (i:Nat),(l.map (·.born)).Nodup->l[i]?=some m->l.eraseIdx i=l.filter (fun e=>e.born !=m.born):=by
  intro l;induction l with
  |nil=>intro i _ h;simp at h
  |cons a l ih=>
   intro i hn hi;simp only[List.map_cons,List.nodup_cons]at hn;cases i with
   |zero=>
    simp at hi;subst hi;simp only[List.eraseIdx_zero,List.tail_cons,List.filter_cons,bne_self_eq_false,Bool.false_eq_true,if_false];symm;rw[List.filter_eq_self];intro e he;simp only[bne_iff_ne,ne_eq];intro hb;exact hn.1 (List.mem_map.2 ⟨e,he,hb⟩)
   |succ i=>
    simp only[List.eraseIdx_cons_succ];have qx:l[i]?=some m:=by simpa using hi
    have:a.born≠m.born:=fun hb=>hn.1 (List.mem_map.2 ⟨m,List.mem_of_getElem? qx,hb.symm⟩);simp[this,ih i hn.2 qx]
 have C5:i<arr.size:=by
  rcases Nat.lt_or_ge i arr.size with h|h
  .exact h
  .rw[Array.getElem?_eq_none h]at hi;cases hi
 rw[Array.eraseIdxIfInBounds,dif_pos C5,Array.toList_eraseIdx];exact key _ _ hn (by simpa using hi)
theorem NY {kd:Kd} {k:AV} {e:XA}:A' kd k e=true↔cG kd k e.1=some true:=by
 unfold A';cases h:cG kd k e.1 with
 |none=>simp
 |some b=>simp
theorem QD {C:Cx} {b:Nat} {kd:Kd} {k v:AV} {kx vx:Value} (hk:VR C k kx) (hv:VR C v vx) {n:Nat} (hi:∀j,C.G b j->C.b b j=C.b b n->j=n):
 ∀ {es:List XA} {l:List MapEntry},WT C b es l->(es.map (·.2.2)).Nodup->(∀e∈es,(A' kd k e=true↔e.2.2=n))->
  WT C b (pj kd k v es) (l.map (Yt (C.b b n) fun e=> {e with key:=kx,val:=vx}))
 |_,_,.O,_,_=> .O
 |e::es,m::l,.J h1 h2 h3 h4 t,hn,h=>by
  simp only[List.map_cons,List.nodup_cons]at hn;simp only[pj,List.map_cons];have hh:=h e (Qh ..);cases hq:A' kd k e with
  |true=>
   have jX:=hh.1 hq;simp only[cond_true];have hm:m.born=C.b b n:=by rw[h4];exact congrArg _ jX
   have dw:l.map (Yt (C.b b n) fun e=> {e with key:=kx,val:=vx})=l:=by
    rw[List.map_congr_left (g:=id),List.map_id];intro m' mN;obtain⟨e',ZK,_,_,g3,g4⟩:=t.A mN;have:m'.born≠C.b b n:=by
     rw[g4];intro hb;have:=hi _ g3 hb;exact hn.1 (List.mem_map.2 ⟨e',ZK,this.trans jX.symm⟩)
    simp[Yt,this]
   rw[dw];simp only[Yt,hm,if_true];exact .J hk hv h3 (hm.symm.trans h4) t
  |false=>
   have jX:e.2.2≠n:=fun he=>by rw[hh.2 he]at hq;cases hq
   simp only[cond_false];have hm:m.born≠C.b b n:=by
    rw[h4];intro hb;exact jX (hi _ h3 hb)
   simp only[Yt,hm,if_false];exact .J h1 h2 h3 h4 (QD hk hv hi t hn.2 fun e' ZK=>h e' (Qg _ ZK))
theorem Ry {C:Cx} {b:Nat} {kd:Kd} {k:AV} {n:Nat} (hi:∀j,C.G b j->C.b b j=C.b b n->j=n):
 ∀ {es:List XA} {l:List MapEntry},WT C b es l->(es.map (·.2.2)).Nodup->(∀e∈es,(A' kd k e=true↔e.2.2=n))->
  WT C b (rT kd k es) (l.filter (fun e=>e.born !=C.b b n))
 |_,_,.O,_,_=> .O
 |e::es,m::l,.J h1 h2 h3 h4 t,hn,h=>by
  simp only[List.map_cons,List.nodup_cons]at hn;simp only[rT];have hh:=h e (Qh ..);cases hq:A' kd k e with
  |true=>
   have jX:=hh.1 hq;simp only[cond_true];have hm:m.born=C.b b n:=by rw[h4];exact congrArg _ jX
   have dw:l.filter (fun e=>e.born !=C.b b n)=l:=by
    rw[List.filter_eq_self];intro m' mN;obtain⟨e',ZK,_,_,g3,g4⟩:=t.A mN;simp only[bne_iff_ne,ne_eq,g4];intro hb;exact hn.1 (List.mem_map.2 ⟨e',ZK,(hi _ g3 hb).trans jX.symm⟩)
   simp only[List.filter_cons,hm,bne_self_eq_false,Bool.false_eq_true,if_false];rw[dw];exact t
  |false=>
   have jX:e.2.2≠n:=fun he=>by rw[hh.2 he]at hq;cases hq
   simp only[cond_false];have hm:(m.born !=C.b b n)=true:=by
    simp only[bne_iff_ne,ne_eq];rw[h4];intro hb;exact jX (hi _ h3 hb)
   simp only[List.filter_cons,hm,if_true];exact .J h1 h2 h3 h4 (Ry hi t hn.2 fun e' ZK=>h e' (Qg _ ZK))
theorem Nd {kd:Kd} {k v:AV}:∀ {es:List XA},(∀e∈es,(A' kd k e=true->k=e.1))->(pj kd k v es).map (·.1)=es.map (·.1)
 | [],_=>rfl
 |e::es,h=>by
  simp only[pj];cases hq:A' kd k e with
  |true=>simp[h e (Qh ..) hq]
  |false=>simp[Nd fun e' ZK=>h e' (Qg _ ZK)]
theorem lW {kd:Kd} {k:AV}:∀ {es:List XA},(rT kd k es).Sublist es
 | []=>List.Sublist.refl _
 |e::es=>by
  simp only[rT];cases A' kd k e with
  |true=>exact List.sublist_cons_self ..
  |false=>exact(lW (es:=es)).cons_cons _
theorem Qu (n:Nat) (kx vx:Value) (m:MapEntry):(Yt n (fun e=> {e with key:=kx,val:=vx}) m).born=m.born:=by
 unfold Yt;split<;>rfl
theorem I9 {es:List XA}:Aab es↔(∀k∈es.map (·.1),iG k=true)/\(es.map (·.1)).Nodup:=by
 unfold Aab;constructor
 .rintro⟨h1,h2⟩;refine⟨fun k hk=>?_,h2⟩;obtain⟨e,he,rfl⟩:=List.mem_map.1 hk;exact h1 e he
 .rintro⟨h1,h2⟩;exact⟨fun e he=>h1 _ (List.mem_map.2 ⟨e,he,rfl⟩),h2⟩
theorem iY.u {C:Cx} {b clock:Nat} {es:List XA} {w:World} {arr:Array MapEntry} {l:List MapEntry} (h:iY C b es clock w arr l):(es.map (·.2.2)).Nodup:=by
 have:=h.c;rw[h.i.z]at this;exact Fq this
theorem iY.z {C:Cx} {b clock:Nat} {es:List XA} {w:World} {arr:Array MapEntry} {l:List MapEntry} (h:iY C b es clock w arr l):(arr.toList.map (·.born)).Nodup:=
 ((h.a.map _).nodup_iff).1 h.c
theorem iY.A {C:Cx} {b clock:Nat} {es:List XA} {w:World} {arr:Array MapEntry} {l:List MapEntry} (h:iY C b es clock w arr l) {kd:Kd} {k v:AV} {kx vx:Value} (hk:VR C k kx) (hv:VR C v vx)
 {e:XA} (hr:Yo kd k es=some (some e)) {i:Nat} {m:MapEntry} (hi:arr[i]?=some m) (hb:m.born=C.b b e.2.2):
 OR C b (.Y (pj kd k v es) clock) (.map (arr.modify i fun e=> {e with key:=kx,val:=vx}) clock):=by
 obtain⟨h1,h2,h3⟩:=FT hr;obtain⟨XU,lV⟩:=h3 e rfl;have zG:=(El lV).1 rfl;obtain⟨_,_,_,_,dq,_⟩:=h.i.g XU;have heq:∀e'∈es,(A' kd k e'=true↔e'.2.2=e.2.2):=by
  intro e' ZK;rw[NY];constructor
  .intro hq;have:=(El hq).1 rfl;rw[Bh h.e.2 ZK XU (this.symm.trans zG)]
  .intro hq;rw[Bh h.u ZK XU hq];exact lV
 have hkeys:(pj kd k v es).map (·.1)=es.map (·.1):=Nd fun e' _ hq=>(El (NY.1 hq)).1 rfl;refine .Y (l:=l.map (Yt (C.b b e.2.2) fun e=> {e with key:=kx,val:=vx})) ?_ (QD hk hv (fun j hj hg=>h.inj _ _ hj dq hg) h.i h.u heq)
  (by rw[I9,hkeys,<-I9];exact h.e) ?_ h.j h.g h.inj
 .rw[Jw h.z hi,hb];exact h.a.map _
 .rw[List.map_map];have:((·.born)∘Yt (C.b b e.2.2) fun e=> {e with key:=kx,val:=vx}:MapEntry->Nat)=(·.born):=by
   funext m;exact Qu _ _ _ _
  rw[this];exact h.c
theorem iY.B {C:Cx} {b clock:Nat} {es:List XA} {w:World} {arr:Array MapEntry} {l:List MapEntry} (h:iY C b es clock w arr l) {kd:Kd} {k:AV}
 {e:XA} (hr:Yo kd k es=some (some e)) {i:Nat} {m:MapEntry} (hi:arr[i]?=some m) (hb:m.born=C.b b e.2.2):
 OR C b (.Y (rT kd k es) clock) (.map (arr.eraseIdxIfInBounds i) clock):=by
 obtain⟨h1,h2,h3⟩:=FT hr;obtain⟨XU,lV⟩:=h3 e rfl;have zG:=(El lV).1 rfl;obtain⟨_,_,_,_,dq,_⟩:=h.i.g XU;have heq:∀e'∈es,(A' kd k e'=true↔e'.2.2=e.2.2):=by
  intro e' ZK;rw[NY];constructor
  .intro hq;have:=(El hq).1 rfl;rw[Bh h.e.2 ZK XU (this.symm.trans zG)]
  .intro hq;rw[Bh h.u ZK XU hq];exact lV
 refine .Y (l:=l.filter (fun e'=>e'.born !=C.b b e.2.2)) ?_ (Ry (fun j hj hg=>h.inj _ _ hj dq hg) h.i h.u heq) ?_ ?_ h.j h.g h.inj
 .rw[SN h.z hi,hb];exact h.a.filter _
 .exact⟨fun e' ZK=>h.e.1 e' (lW.subset ZK),(lW.map _).nodup h.e.2⟩
 .exact((List.filter_sublist).map _).nodup h.c
def Cx.O (C:Cx) (b n:Nat):Cx:= {C with b:=fun c k=>if c=b/\k=n then n else C.b c k,G:=fun c k=>C.G c k\/(c=b/\k=n)}
theorem m_.YU {C:Cx} {b n:Nat} (h:¬C.G b n):m_ C (C.O b n):=
 ⟨fun _ h=>h,fun _ _=>rfl,fun _ _ h=>h,fun _ _ h=> .inl h,fun c k hk=>by
  have:¬(c=b/\k=n):=by rintro⟨rfl,rfl⟩;exact h hk
  simp[Cx.O,this],fun _ h=>h⟩
theorem iY.I {C:Cx} {b clock:Nat} {es:List XA} {w:World} {arr:Array MapEntry} {l:List MapEntry} (h:iY C b es clock w arr l) {k v:AV} {kx vx:Value} (hk:VR C k kx) (hv:VR C v vx)
 (WO:iG k=true) (Xo:∀e∈es,k≠e.1):
 ¬C.G b clock/\OR (C.O b clock) b (.Y (es++[(k,v,clock)]) (clock+1)) (.map (arr.push {key:=kx,val:=vx,born:=clock}) (clock+1)):=by
 have mP:¬C.G b clock:=fun hg=>Nat.lt_irrefl _ (h.g _ hg);have e:=m_.YU mP;have hgh:(C.O b clock).b b clock=clock:=by simp[Cx.O]
 have happ:∀ {es:List XA} {l:List MapEntry},WT C b es l->WT (C.O b clock) b (es++[(k,v,clock)]) (l++[{key:=kx,val:=vx,born:=clock}]):=by
  intro es l hh;induction hh with
  |O=>exact .J (hk.g e) (hv.g e) (.inr ⟨rfl,rfl⟩) hgh.symm .O
  |J h1 h2 h3 h4 _ ih=>exact .J (h1.g e) (h2.g e) (.inl h3) (h4.trans (e.c _ _ h3).symm) ih
 have C5:=h.i.G h.j;refine⟨mP,.Y (l:=l++[{key:=kx,val:=vx,born:=clock}]) ?_ (happ h.i) ⟨?_,?_⟩ ?_ ?_ ?_ ?_⟩
 .rw[Array.toList_push];exact h.a.append_right _
 .intro e' ZK;rcases List.mem_append.1 ZK with ZK|ZK
  .exact h.e.1 e' ZK
  .simp only[Qp]at ZK;subst ZK;exact WO
 .rw[List.map_append,List.nodup_append];refine⟨h.e.2,by simp,?_⟩;intro a ha b' ZJ hab;simp only[List.map_cons,List.map_nil,Qp]at ZJ;obtain⟨e',ZK,rfl⟩:=List.mem_map.1 ha;exact Xo e' ZK (by rw[hab,ZJ])
 .rw[List.map_append,List.nodup_append];refine⟨h.c,by simp,?_⟩;intro a ha b' ZJ hab;simp only[List.map_cons,List.map_nil,Qp]at ZJ;obtain⟨m,hm,rfl⟩:=List.mem_map.1 ha;have:=C5 m hm;omega
 .rintro n (hg|⟨_,rfl⟩)
  .rw[e.c _ _ hg];exact Nat.lt_succ_of_lt (h.j n hg)
  .rw[hgh];exact Nat.lt_succ_self _
 .rintro n (hg|⟨_,rfl⟩)
  .exact Nat.lt_succ_of_lt (h.g n hg)
  .exact Nat.lt_succ_self _
 .rintro n m (hg|⟨_,rfl⟩) (kB|⟨_,rfl⟩) hh
  .rw[e.c _ _ hg,e.c _ _ kB]at hh;exact h.inj n m hg kB hh
  .rw[e.c _ _ hg,hgh]at hh;have:=h.j n hg;omega
  .rw[e.c _ _ kB,hgh]at hh;have:=h.j m kB;omega
  .rfl
section
variable {E : c_} {P : Program} (he : Wd E P)
def wv (C:Cx):Option XA->Option (Nat×Value)->Prop
 |none,none=>True
 |some e,some p=>VR C e.2.1 p.2
 |_,_=>False
theorem kd_len {kd:Kd} {k:AV} (h:fZ kd k=true):iG k=true:=S5 h
include he
theorem Ej {t:TypeId} {kd:Kd} (hk:aF E t=some kd) {C:Cx} {a:AV} {x:Value} (ha:VR C a x) (WO:fZ kd a=true) (empty:Bool) (w:World):
 (Instr.checkKey empty 10000 t x).run P w= .ok () w:=Qr he hk ha WO empty 9998 w
theorem Un {o:Oper} {t:TypeId} {x k:Operand} {ok:Bool} (ho:o.op= .lookup t x k ok):W5 E P o (iH E t x k ok):=by
 unfold iH;split
 .next key elem hu=>
  split
  .next z kd hz hk=>
   intro C T a S w hg hT hS v h;obtain⟨av,jW,h⟩:=Qa.1 h;obtain⟨kv,hkv,h⟩:=Qa.1 h;have aJ:=Al hg hT jW;have um:=Al hg hT hkv;unfold ck at h;cases WO:fZ kd kv with
   |false=>rw[WO]at h;cases h
   |true=>
   rw[WO]at h;simp only[cond_true]at h;obtain⟨es,fi,h⟩:=Qa.1 h;obtain⟨r,hr,h⟩:=Qa.1 h;cases h;obtain⟨zv,uQ,kZ⟩:=Ny he hz;have gg:=fun e w=>Ej he hk um WO e w;have fin:∀(arr:Array MapEntry) (q:Option (Nat×Value)),(Instr.findKey key (a.eval k) arr.toList).run P w= .ok q w->
    wv C r q->
    ∃y,((do
     Instr.checkKey arr.isEmpty 10000 key (a.eval k)
     let(v,tk)<-match<-Instr.findKey key (a.eval k) arr.toList with
      |some (_,v)=>pure (v,true)
      |none=>pure (<-zeroValue elem,false)
     pure (if ok then .tuple #[v,.bool tk]else v)):Sem Value).run P w= .ok y w/\VR C (eX ok z r) y:=by
    intro arr q hq uo;simp only[Sem.run_bind,gg,Result.andThen_ok,hq];cases r with
    |none=>
     cases q with
     |some p=>exact uo.elim
     |none=>
      simp only[Sem.run_bind,uQ,Result.andThen_ok,Sem.run_pure];cases ok with
      |true=>exact⟨_,rfl,.J (by simpa using Wx.J (kZ C) (Wx.A (.bool false)))⟩
      |false=>exact⟨_,rfl,kZ C⟩
    |some e=>
     cases q with
     |none=>exact uo.elim
     |some p=>
      obtain⟨i,pv⟩:=p;simp only[Sem.run_pure,Result.andThen_ok];cases ok with
      |true=>exact⟨_,rfl,.J (by simpa using Wx.J uo (Wx.A (.bool true)))⟩
      |false=>exact⟨_,rfl,uo⟩
   cases av with
   |WZ=>
    cases fi;cases hr;generalize hq:a.eval x=q at aJ;cases aJ;obtain⟨y,hy,ir⟩:=fin #[] none (HN he hk um (n:=0) (L:=[]) (by simp)) trivial;refine⟨y,?_,ir⟩;simp only[execOp,ho,Sem.run_bind,hq,Instr.lookup,Ag he hu,Result.andThen_ok,Sem.run_pure];simp only[Sem.run_bind]at hy;exact congrArg (fun R:Result Value=>R.andThen fun a w'=>Result.ok (Next.value a) w') hy
   |bW b=>
    simp only[l9]at fi;obtain⟨cl,hb⟩:=Jz fi;obtain⟨arr,l,hm⟩:=hS.z hb;generalize hq:a.eval x=q at aJ;cases aJ;obtain⟨g1,g2⟩:=J1 he hk um hm hr;have:∃q,(Instr.findKey key (a.eval k) arr.toList).run P w= .ok q w/\wv C r q:=by
     cases r with
     |none=>exact⟨none,(g1 rfl).1 w,trivial⟩
     |some e=>
      obtain⟨_,_,_,i,m,_,_,hv,_,hf⟩:=g2 e rfl;exact⟨_,hf w,hv⟩
    obtain⟨qq,hqq,uo⟩:=this;obtain⟨y,hy,ir⟩:=fin arr qq hqq uo;refine⟨y,?_,ir⟩;simp only[execOp,ho,Sem.run_bind,hq,Instr.lookup,Ag he hu,Result.andThen_ok,AE hm.f (by simp),Sem.run_pure];simp only[Sem.run_bind]at hy;exact congrArg (fun R:Result Value=>R.andThen fun a w'=>Result.ok (Next.value a) w') hy
   |_=>cases fi
  .exact W5.bad
 .exact W5.bad
omit he in
theorem BT {C:Cx} {S:St} {w:World} (hS:WW C S w) {b:Nat} {o0:CG} (hb:S.b.g b=some o0) {C':Cx} (e:m_ C C') (hD:∀k,C'.D k->C.D k) (hM:C'.M=C.M) (hX:C'.X=C.X)
 (hG:∀k n,C'.G k n->C.G k n\/k=b) {o:CG} {x y:Obj} (hx:w.heap[(C.a b).b]?=some y) (hc:∀c e f,y≠ .cells c e f) (hr:OR C' b o x):
 (setObj (C.a b).b x).run P w= .ok () (e_.g w (C.a b).b x)/\CE C S w C' (S.z b (some o)) (e_.g w (C.a b).b x):=
 ⟨DA hx hc,Kg hS hb e hD hM hX hG o x hr⟩
omit he in
theorem wx {C:Cx} {k:AV} {kx:Value} (hk:VR C k kx) (WO:iG k=true) (w:World):(Instr.keyThatStays kx kx).run P w= .ok kx w:=
 wu (Po WO hk 9999)
theorem U6 {t key elem:TypeId} {kd:Kd} (hu:Wb E t=some (.map key elem)) (hk:aF E key=some kd) {C:Cx} {S S':St} {w:World} (hS:WW C S w) {k v m:AV} {kx vx mx:Value}
 (um:VR C k kx) (hvv:VR C v vx) (wa:VR C m mx) (h:cm kd S k v m=some S'):∃C' w',(Instr.mapUpdate t mx kx vx).run P w= .ok () w'/\CE C S w C' S' w':=by
 unfold cm at h;split at h
 .next b=>
  cases WO:fZ kd k with
  |false=>rw[WO]at h;cases h
  |true=>
  rw[WO]at h;simp only[cond_true]at h;unfold cY at h;split at h
  .next es clock hb=>
   obtain⟨r,hr,h⟩:=Qa.1 h;obtain⟨arr,l,hm⟩:=hS.z hb;obtain⟨g1,g2⟩:=J1 he hk um hm hr;have gg:=fun e w=>Ej he hk um WO e w;have hkok:=kd_len WO;cases wa with
   |b_ hd=>
   cases r with
   |none=>
    cases h;obtain⟨mP,wy⟩:=hm.I um hvv hkok (g1 rfl).2;obtain⟨CF,ht⟩:=BT (P:=P) hS hb (m_.YU mP) (fun _ h=>h) rfl rfl (fun k n h=>h.imp id (fun h=>h.1)) hm.f (by simp) wy;refine⟨_,_,?_,ht⟩;simp only[Instr.mapUpdate,Sem.run_bind,Ag he hu,Result.andThen_ok,AE hm.f (by simp),gg,(g1 rfl).1,CF]
   |some e=>
    cases h;obtain⟨XU,zG,dq,i,me,hi,hmk,hmv,hmb,hf⟩:=g2 e rfl;have wy:=hm.A um hvv hr hi hmb;obtain⟨CF,ht⟩:=BT (P:=P) hS hb (.g C) (fun _ h=>h) rfl rfl (fun k n h=> .inl h) hm.f (by simp) wy;refine⟨_,_,?_,ht⟩;simp only[Instr.mapUpdate,Sem.run_bind,Ag he hu,Result.andThen_ok,AE hm.f (by simp),gg,hf,hi,Option.map_some,Option.getD_some,hmk,wx um hkok,CF]
  .cases h
 .cases h
theorem NF {o:Oper} {t:TypeId} {m k v:Operand} (ho:o.op= .mapUpdate t m k v\/o.op= .insert t m k v):W5 E P o (fJ E t m k v):=by
 unfold fJ;split
 .next key elem hu=>
  split
  .next kd hk=>
   intro C T a S w hg hT hS r S' h;obtain⟨av,jW,h⟩:=Qa.1 h;obtain⟨bv,uS,h⟩:=Qa.1 h;obtain⟨cv,fU,h⟩:=Qa.1 h;obtain⟨s',aq,hr⟩:=KG h;cases hr;obtain⟨C',w',CF,ht⟩:=U6 he hu hk hS (Al hg hT uS) (Al hg hT fU) (Al hg hT jW) aq;refine⟨C',.skip,w',?_,ht,.O⟩;rcases ho with ho|ho<;>simp[execOp,ho,CF]
  .exact W5.bad
 .exact W5.bad
end
theorem GA {C:Cx} {b:Nat} {v:AV} {vx:Value} (hv:VR C v vx) {n:Nat} (hi:∀j,C.G b j->C.b b j=C.b b n->j=n):
 ∀ {es mM:List XA} {l:List MapEntry},WT C b es l->(es.map (·.2.2)).Nodup->iI n v es=some mM->
  WT C b mM (l.map (Yt (C.b b n) fun e=> {e with val:=vx}))/\mM.map (·.1)=es.map (·.1)/\C.G b n/\∃m∈l,m.born=C.b b n
 |_,_,_,.O,_,h=>by cases h
 |e::es,mM,m::l,.J h1 h2 h3 h4 t,hn,h=>by
  simp only[List.map_cons,List.nodup_cons]at hn;simp only[iI]at h;simp only[List.map_cons];cases hq:Nat.beq _ n with
  |true=>
   rw[hq]at h;cases h;have jX:=Qb hq;have hm:m.born=C.b b n:=by rw[h4];exact congrArg _ jX
   have dw:l.map (Yt (C.b b n) fun e=> {e with val:=vx})=l:=by
    rw[List.map_congr_left (g:=id),List.map_id];intro m' mN;obtain⟨e',ZK,_,_,g3,g4⟩:=t.A mN;have:m'.born≠C.b b n:=by
     rw[g4];intro hb;have:=hi _ g3 hb;exact hn.1 (List.mem_map.2 ⟨e',ZK,this.trans jX.symm⟩)
    simp[Yt,this]
   rw[dw];simp only[Yt,hm,if_true];exact⟨.J h1 hv h3 (hm.symm.trans h4) t,U,jX▸h3,m,Qh ..,hm⟩
  |false=>
   rw[hq]at h;obtain⟨r,hr,h⟩:=Qa.1 h;cases h;have jX:¬_=n:=Nat.ne_of_beq_eq_false hq;have hm:m.born≠C.b b n:=by
    rw[h4];intro hb;exact jX (hi _ h3 hb)
   obtain⟨a1,a2,a3,m',mN,a4⟩:=GA hv hi t hn.2 hr;simp only[Yt,hm,if_false];exact⟨.J h1 h2 h3 h4 a1,by simp[a2],a3,m',Qg _ mN,a4⟩
theorem Ip {n:Nat}:∀ {l:List MapEntry},(∃m∈l,m.born=n)->∃i m,l.findIdx? (fun e=>(e.born:Int)==(n:Int))=some i/\l[i]?=some m/\m.born=n
 | [],h=>by obtain⟨_,h,_⟩:=h;cases h
 |a::l,h=>by
  by_cases ha:a.born=n
  .exact⟨0,a,by simp[List.findIdx?_cons,ha],U,ha⟩
  .obtain⟨m,hm,hn⟩:=h;have mN:m∈l:=(Qk.1 hm).resolve_left (fun e=>ha (e▸hn));obtain⟨i,m',h1,h2,h3⟩:=Ip (l:=l) ⟨m,mN,hn⟩;refine⟨i+1,m',?_,by simpa using h2,h3⟩;have:((a.born:Int)==(n:Int))=false:=by simp only[beq_eq_false_iff_ne,ne_eq];omega
   simp[List.findIdx?_cons,this,h1]
theorem iY.eQ {C:Cx} {b clock:Nat} {es mM:List XA} {w:World} {arr:Array MapEntry} {l:List MapEntry} (h:iY C b es clock w arr l) {v:AV} {vx:Value} (hv:VR C v vx) {n:Nat} (hg:C.G b n)
 (hs:iI n v es=some mM):∃i,arr.findIdx? (fun e=>(e.born:Int)==(C.b b n:Int))=some i/\OR C b (.Y mM clock) (.map (arr.modify i fun e=> {e with val:=vx}) clock):=by
 obtain⟨a1,a2,a3,m,hm,a4⟩:=GA hv (fun j hj hgj=>h.inj _ _ hj hg hgj) h.i h.u hs;obtain⟨i,m',h1,h2,h3⟩:=Ip (l:=arr.toList) ⟨m,h.a.mem_iff.1 hm,a4⟩;refine⟨i,by rw[<-h1];have:=List.findIdx?_toArray (p:=fun e:MapEntry=>(e.born:Int)==(C.b b n:Int)) (l:=arr.toList);simpa using this,.Y (l:=l.map (Yt (C.b b n) fun e=> {e with val:=vx})) ?_ a1 (by rw[I9,a2,<-I9];exact h.e) ?_ h.j h.g h.inj⟩
 .rw[Jw h.z (by simpa using h2),h3];exact h.a.map _
 .rw[List.map_map];have:((·.born)∘Yt (C.b b n) fun e=> {e with val:=vx}:MapEntry->Nat)=(·.born):=by
   funext m;simp only[Function.comp,Yt];split<;>rfl
  rw[this];exact h.c
section
variable {E : c_} {P : Program} (he : Wd E P)
include he
theorem Uv {o:Oper} {c:Call} {t:TypeId} {ts:List TypeId} {m k:Operand} (ho:o.op= .call c) (hc:c.callee= .builtin .delete) (fT:c.argTypes.toList=t::ts) (gu:c.args.toList=[m,k]):
 W5 E P o (W_ E t m k):=by
 have nj:c.argTypes[0]?=some t:=by rw[<-Array.getElem?_toList,fT];rfl
 have Xx:∀ρ:Operand->Value,c.args.map ρ= #[ρ m,ρ k]:=by
  intro ρ;apply Array.ext';simp[gu]
 unfold W_;split
 .next key elem hu=>
  split
  .next kd hk=>
   intro C T a S w hg hT hS r S' h;obtain⟨av,jW,h⟩:=Qa.1 h;obtain⟨kv,uS,h⟩:=Qa.1 h;obtain⟨s',aq,hr⟩:=KG h;cases hr;have wa:=Al hg hT jW;have um:=Al hg hT uS;have du:(execOp a.eval o).run P w=(do pure (Next.value (<-Builtin.delete_ c.argTypes o.type #[a.eval m,a.eval k])):Sem Next).run P w:=by
    simp[execOp,ho,resolve,hc,invoke,builtin,Xx]
   cases av with
   |bW b=>
    simp only[zX]at aq;cases WO:fZ kd kv with
    |false=>rw[WO]at aq;cases aq
    |true=>
    rw[WO]at aq;simp only[cond_true]at aq;have gg:=fun e w=>Ej he hk um WO e w;unfold V' at aq;split at aq
    .next es clock hb=>
     obtain⟨r',hr,aq⟩:=Qa.1 aq;obtain⟨arr,l,hm⟩:=hS.z hb;obtain⟨g1,g2⟩:=J1 he hk um hm hr;generalize hq:a.eval m=q at wa;cases wa with
     |b_ hd=>
     cases r' with
     |none=>
      cases aq;have CF:=DA (P:=P) (w:=w) (r:=(C.a b).b) (o:= .map arr clock) hm.f (by simp);have tr:e_.g w (C.a b).b (.map arr clock)=w:=by
       unfold e_.g;have:w.heap.setIfInBounds (C.a b).b (.map arr clock)=w.heap:=by
        apply Array.ext_getElem?;intro j;rw[Array.getElem?_setIfInBounds];split
        .next e=>subst e;rw[hm.f];simp[B1 hm.f]
        .rfl
       rw[this]
      rw[tr]at CF;refine⟨C,.value _,w,?_,CE.g hS,.J VR.z⟩;rw[du];simp[Builtin.delete_,nj,Ag he hu,hq,AE hm.f (by simp),gg,(g1 rfl).1,CF]
     |some e=>
      cases aq;obtain⟨XU,zG,dq,i,me,hi,hmk,hmv,hmb,hf⟩:=g2 e rfl;have wy:=hm.B hr hi hmb;obtain⟨CF,ht⟩:=BT (P:=P) hS hb (.g C) (fun _ h=>h) rfl rfl (fun k n h=> .inl h) hm.f (by simp) wy;refine⟨C,.value _,_,?_,ht,.J VR.z⟩;rw[du];simp[Builtin.delete_,nj,Ag he hu,hq,AE hm.f (by simp),gg,hf,CF]
    .cases aq
   |WZ=>
    simp only[zX]at aq;cases WO:fZ kd kv with
    |false=>rw[WO]at aq;cases aq
    |true=>
    rw[WO]at aq;cases aq;have gg:=fun e w=>Ej he hk um WO e w;generalize hq:a.eval m=q at wa;cases wa with
    |WZ=>
    refine⟨C,.value _,w,?_,CE.g hS,.J VR.z⟩;rw[du];simp[Builtin.delete_,nj,Ag he hu,hq,gg]
   |_=>simp[zX]at aq
  .exact W5.bad
 .exact W5.bad
theorem wz {o:Oper} {t:TypeId} {x:Operand} (ho:o.op= .range t x):W5 E P o (lG E t x):=by
 unfold lG;split
 .next hu=>
  intro C T a S w hg hT hS;refine⟨fun v h=>?_,fun ob g h=>?_⟩
  .obtain⟨av,jW,h⟩:=Qa.1 h;cases av<;>cases h
  .obtain⟨av,jW,h⟩:=Qa.1 h;have hv:=Al hg hT jW;cases av<;>try (cases h;done)
   rename_i b
   cases h;generalize hq:a.eval x=q at hv;cases hv with
   |an hs=>
   refine⟨_,_,_,?_,CE.A hS _ (.stringIter _ 0) 0 (.Ym hs (by rw[Bk])),F2 0⟩;simp[execOp,ho,Instr.range,Ag he hu,hq,e_.u]
 .next k e hu=>
  intro C T a S w hg hT hS v S' h;obtain⟨av,jW,h⟩:=Qa.1 h;have hv:=Al hg hT jW;cases av with
  |WZ=>
   cases h;generalize hq:a.eval x=q at hv;cases hv;refine⟨_,.value _,_,?_,CE.A hS _ (.mapIter none 0 #[] 0) 0 (.pK (by rw[Bk])),.J (F2 0)⟩;simp[execOp,ho,Instr.range,Ag he hu,hq,e_.u]
  |bW m=>
   simp only[J_]at h;split at h
   .next es clock hb=>
    cases h;obtain⟨arr,l,hm⟩:=hS.z hb;generalize hq:a.eval x=q at hv;cases hv with
    |b_ hd=>
    have Y1:(C.u S w 0).a m=C.a m:=(Hb hS 0).a m hd;refine⟨_,.value _,_,?_,CE.A hS _ (.mapIter (some (C.a m).b) clock #[] clock) 0 ?_,.J (F2 0)⟩
    .simp[execOp,ho,Instr.range,Ag he hu,hq,AE hm.f (by simp),e_.u]
    .have:=OR.aO (C:=C.u S w 0) (b:=S.a) (m:=m) (since:=clock) (Xv:=clock) (seen:=[]) (arr:= #[]) ((Hb hS 0).D m hd) (by simp) rfl (by rw[Bk]);rw[Y1]at this;exact this
   .cases h
  |_=>cases h
 .exact W5.bad
end
section
variable {E : c_} {P : Program}
theorem Hu {α β γ:Type} (r:Result α) (f:α->World->Result β) (g:β->World->Result γ):(r.andThen f).andThen g=r.andThen fun a w=>(f a w).andThen g:=by
 cases r<;>rfl
theorem TI {n:Nat}:∀ {l:List Nat},og n l=true↔n∈l
 | []=>by simp[og]
 |k::l=>by
  simp only[og];cases h:Nat.beq k n with
  |true=>have:=Qb h;subst this;simp
  |false=>
   have:=Nat.ne_of_beq_eq_false h;simp only[cond_false,Qk];rw[TI];constructor
   .exact .inr
   .grind
theorem NT {seen:List Nat} {e:XA}:∀ {es:List XA},e∈iJ seen es↔e∈es/\e.2.2∉seen
 | []=>by simp[iJ]
 |a::l=>by
  simp only[iJ];cases h:og a.2.2 seen with
  |true=>
   have:=TI.1 h;simp only[cond_true];rw[NT];constructor
   .grind
   .grind
  |false=>
   have hn:a.2.2∉seen:=fun hm=>by rw[TI.2 hm]at h;cases h
   simp only[cond_false,Qk];rw[NT];constructor
   .grind
   .grind
theorem KY {s:St} {r m since clock:Nat} {seen:List Nat} {e:XA}:∀ {es:List XA},e∈es->
 (AV.Y [.bool true,e.1,e.2.1],s.z r (some (.aO (some m) since (seen++[e.2.2]) clock)))∈pw s r m since clock seen es
 |a::l,h=>by
  simp only[pw];rcases Qk.1 h with rfl|h
  .exact Qh ..
  .exact Qg _ (KY h)
theorem SQ {s:ByteArray} {pos:Nat} {c:UInt8} (h:s.data[pos]?=some c) (hc:c.toNat<128):Utf8.decode s pos=(c.toNat,1):=by
 have hg:s.get! pos=c:=by
  have C5:pos<s.data.size:=by grind
  have:s.data[pos]! =c:=by grind
  exact this
 simp only[Utf8.decode,Nat.add_zero,hg];rw[if_pos (by omega)]
theorem NO {s:St} {v:AV} {r} (h:dL s v=some r):∃b,v= .J b 0/\db s b (s.b.g b)=some r:=by
 unfold dL at h;split at h
 .exact⟨_,U,h⟩
 .cases h
theorem NP {s:St} {v:AV} {r} (h:kP s v=some r):∃b,v= .J b 0/\ju s b (s.b.g b)=some r:=by
 unfold kP at h;split at h
 .exact⟨_,U,h⟩
 .cases h
theorem PW {s:St} {v:AV} {r} (h:pz s v=some r):∃b,v= .J b 0/\py s (s.b.g b)=some r:=by
 unfold pz at h;split at h
 .exact⟨_,U,h⟩
 .cases h
theorem Sp {o:Oper} {it:Operand} (ho:o.op= .next it true):W5 E P o (.a_ true (Ci E it) fun T s=>(Ci E it T).bind (dL s)):=by
 intro C T a S w hg hT hS v S' h;obtain⟨av,jW,h⟩:=Qa.1 h;have hv:=Al hg hT jW;obtain⟨r,mQ,h1⟩:=NO h;subst mQ;replace h:=h1;clear h1;unfold db at h;split at h
 .next b pos hb=>
  obtain⟨l,hl,h⟩:=Qa.1 h;obtain⟨hd,x,hx,hr⟩:=hS.a r _ hb;generalize hq:a.eval it=q at hv;cases hv with
  |aG tt=>
  cases hr with
  | @Ym _ s _ hs gz=>
  rw[gz]at hq;obtain⟨pre,kE,Y1⟩:=BF hl;have hlen:s.size=pre.length+l.length:=by
   have:s.size=s.data.toList.length:=by simp
   rw[this,hs,kE];simp
  have ZP:=AE (P:=P) (w:=w) hx (by simp);split at h
  .next c rest=>
   have qL:pos<s.size:=by simp at hlen;omega
   have hc:s.data[pos]?=some c:=by
    rw[<-Array.getElem?_toList,hs,kE,List.getElem?_append_right (by omega)];simp[Y1]
   have hstr:(⟨b.toArray⟩:ByteArray)=s:=by apply ByteArray.ext;apply Array.ext';simp[hs]
   cases fk:Nat.blt c.toNat 128 with
   |true=>
    rw[fk]at h;cases h;have C5:c.toNat<128:=by simpa[Nat.blt_eq]using fk
    obtain⟨CF,ht⟩:=BT (P:=P) hS hb (.g C) (fun _ h=>h) rfl rfl (fun k n h=> .inl h) hx (by simp) (OR.Ym (C:=C) (b:=r) (pos:=pos+1) hs gz);refine⟨C,.value _,_,?_,ht,.J (.J (x:= #[.bool true,goInt pos,.int .i32 c.toNat]) (.J (.bool true) (.J (.int _ _) (.A (.int _ _)))))⟩;simp[execOp,ho,Instr.next,hq,ZP,qL,SQ hc C5,CF]
   |false=>
    rw[fk]at h;simp only[cond_false,td,hstr]at h;cases h;obtain⟨CF,ht⟩:=BT (P:=P) hS hb (.g C) (fun _ h=>h) rfl rfl (fun k n h=> .inl h) hx (by simp) (OR.Ym (C:=C) (b:=r) (pos:=pos+(Utf8.decode s pos).2) hs gz);refine⟨C,.value _,_,?_,ht,.J (.J (x:= #[.bool true,goInt pos,.int .i32 (Utf8.decode s pos).1]) (.J (.bool true) (.J (.int _ _) (.A (.int _ _)))))⟩;simp[execOp,ho,Instr.next,hq,ZP,qL,CF]
  .cases h;have qL:¬pos<s.size:=by simp at hlen;omega
   refine⟨C,.value _,w,?_,CE.g hS,.J (.J (x:= #[.bool false]) (.A (.bool false)))⟩;simp[execOp,ho,Instr.next,hq,ZP,qL]
 .cases h
theorem SM {α:Type} {p:α->Bool} {l:List α} (h:∀x∈l,p x=true):l.filter p=l:=List.filter_eq_self.2 h
theorem PQ {α:Type} {p:α->Bool} {l:List α} (h:∀x∈l,p x=false):l.filter p=[]:=by grind [List.filter_eq_nil_iff]
theorem Ss {o:Oper} {it:Operand} (ho:o.op= .next it false):W5 E P o (.Cc fun T s=>(Ci E it T).bind (kP s)):=by
 intro C T a S w hg hT hS ps h;obtain⟨av,jW,h⟩:=Qa.1 h;have hv:=Al hg hT jW;obtain⟨r,mQ,h1⟩:=NP h;subst mQ;replace h:=h1;clear h1;unfold ju at h;generalize hq:a.eval it=q at hv;cases hv with
 |aG tt=>
 split at h
 .next hb=>
  cases h;obtain⟨hd,x,hx,hr⟩:=hS.a r _ hb;cases hr with
  |pK gz=>
  rw[gz]at hq;have ZP:=AE (P:=P) (w:=w) hx (by simp);refine⟨_,Qp.2 U,C,_,w,?_,CE.g hS,.J (x:= #[.bool false]) (.A (.bool false))⟩;simp[execOp,ho,Instr.next,hq,ZP]
 .next m since seen Xv hb=>
  obtain⟨hd,x,hx,hr⟩:=hS.a r _ hb;cases hr with
  | @aO _ _ _ _ jE hdm hgs oz gz=>
  rw[gz]at hq;have ZP:=AE (P:=P) (w:=w) hx (by simp);unfold oh at h;split at h
  .next es clock uP=>
   obtain⟨arr,l,hm⟩:=hS.z uP;cases Y8:(Nat.beq clock Xv&&Nat.beq clock since)with
   |false=>rw[Y8]at h;cases h
   |true=>
   rw[Y8]at h;simp only[Qf]at Y8;have h1:=Qb Y8.1;have h2:=Qb Y8.2;subst h1;subst h2;simp only[cond_true]at h;have w4:=AE (P:=P) (w:=w) hm.f (by simp);have C5:=hm.i.G hm.j;have b7:∀e∈arr.toList,e.born<clock:=fun e he=>C5 e (hm.a.mem_iff.2 he);have Zc:(!jE.isEmpty&& !arr.isEmpty&&arr.all (fun e=>decide (e.born>=clock)))=false:=by
    cases ha:arr.toList with
    |nil=>
     have:arr= #[]:=Array.ext' (by simpa using ha);subst this;simp
    |cons e rest=>
     have:=b7 e (by rw[ha];exact Qh ..);have hf:arr.all (fun e=>decide (e.born>=clock))=false:=by
      rw[<-Array.all_toList,ha];simp only[List.all_cons,Bool.and_eq_false_imp,decide_eq_true_eq];intro h;omega
     rw[hf];simp
   have iZ:∀e∈es,∀n,n=C.b m e.2.2->C.G m e.2.2->(jE.contains n=true↔e.2.2∈seen):=by
    rintro e _ n rfl dq;rw[Array.contains_iff_mem,<-Array.mem_toList_iff,oz,List.mem_map];constructor
    .rintro⟨k,hk,hkk⟩;have:=hm.inj _ _ (hgs k hk) dq hkk;rw[<-this];exact hk
    .intro hk;exact⟨_,hk,rfl⟩
   have hold:(arr.filter fun e=> !jE.contains e.born).filter (fun e=>decide (e.born<clock))=arr.filter fun e=> !jE.contains e.born:=by
    apply Array.ext';rw[Array.toList_filter];apply SM;intro e he;have:e∈arr.toList:=by
     rw[Array.toList_filter]at he;exact(List.mem_filter.1 he).1
    simp[b7 e this]
   have XV:(arr.filter fun e=> !jE.contains e.born).filter (fun e=>decide (e.born>=clock))= #[]:=by
    apply Array.ext';rw[Array.toList_filter];apply PQ;intro e he;have:e∈arr.toList:=by
     rw[Array.toList_filter]at he;exact(List.mem_filter.1 he).1
    have:=b7 e this;simp;omega
   generalize tu:(arr.filter fun e=> !jE.contains e.born)=left at hold XV;have pickk:∀n,0<n->∃k w1,(choose (.mapNext n)).run P w= .ok k w1/\k<n/\w1.heap=w.heap/\CE C S w C S w1:=by
    intro n hn;by_cases hf:n<=1
    .exact⟨0,w,by simp[choose,Sem.run,Question.forced,hf],hn,U,CE.g hS⟩
    .refine⟨w.tape w.drawn (.mapNext n) % n, {w with drawn:=w.drawn+1},by simp[choose,Sem.run,Question.forced,hf,Question.cut],Nat.mod_lt _ hn,U,CE.I hS _⟩
   have w6:∀e∈left,∃q∈iJ seen es,VR C q.1 e.key/\VR C q.2.1 e.val/\C.G m q.2.2/\e.born=C.b m q.2.2:=by
    intro e he;rw[<-tu,<-Array.mem_toList_iff,Array.toList_filter,List.mem_filter]at he;obtain⟨q,eJ,kD,hq3,hq4,hq5⟩:=hm.i.A (hm.a.mem_iff.2 he.1);refine⟨q,NT.2 ⟨eJ,fun hs=>?_⟩,kD,hq3,hq4,hq5⟩;have:=(iZ q eJ e.born hq5 hq4).2 hs;rw[this]at he;simp at he
   have hleft2:iJ seen es≠ []->left≠ #[]:=by
    intro Yh eH;obtain⟨q,hq⟩:=List.exists_mem_of_ne_nil _ Yh;obtain⟨eJ,kD⟩:=NT.1 hq;obtain⟨e,he1,he2,he3,he4,he5⟩:=hm.i.g eJ;have XU:e∈left:=by
     rw[<-tu,<-Array.mem_toList_iff,Array.toList_filter,List.mem_filter];refine⟨hm.a.mem_iff.1 he1,?_⟩;cases hc:jE.contains e.born with
     |false=>rfl
     |true=>exact absurd ((iZ q eJ e.born he5 he4).1 hc) kD
    rw[eH]at XU;simp at XU
   have du:(execOp a.eval o).run P w=((choose (.mapNext ((if left.isEmpty then #[none]else #[])++left.map some).size)).run P w).andThen fun i w1=>
    (match((if left.isEmpty then #[none]else #[])++left.map some:Array (Option MapEntry))[i]? with
    |some (some e)=>((setObj (C.a r).b (.mapIter (some (C.a m).b) clock (jE.push e.born) clock)).run P w1).andThen fun _ w2=> .ok (Next.value (.tuple #[.bool true,e.key,e.val])) w2
    |some none=> .ok (Next.value (.tuple #[.bool false])) w1
    |none=> .halt (.stuck "Next: no such candidate") w1):=by
    simp only[execOp,ho,Instr.next,hq,Sem.run_bind,ZP,Result.andThen_ok,w4,Zc,tu,hold,XV,Array.append_empty,Bool.false_eq_true,if_false];rw[Hu]
    congr 1
    funext i w1
    generalize ((if left.isEmpty=true then #[none]else #[])++Array.map some left)[i]?=qq;rcases qq with _|_|e
    .rfl
    .rfl
    .simp[Hu]
   rw[du];cases qy:iJ seen es with
   |nil=>
    rw[qy]at h;cases h;have eH:left= #[]:=by
     apply Array.ext';cases ui:left.toList with
     |nil=>rfl
     |cons e rest=>
      obtain⟨q,eJ,_⟩:=w6 e (by rw[<-Array.mem_toList_iff,ui];exact Qh ..);rw[qy]at eJ;cases eJ
    subst eH;refine⟨_,Qp.2 U,C,_,w,?_,CE.g hS,.J (x:= #[.bool false]) (.A (.bool false))⟩;simp[choose,Sem.run,Question.forced]
   |cons q0 rest=>
    rw[qy]at h;have Yh:=hleft2 (by rw[qy];simp);have hemp:left.isEmpty=false:=by
     cases hi:left.isEmpty with
     |false=>rfl
     |true=>exact absurd (by simpa using hi) Yh
    rw[hemp];simp only[Bool.false_eq_true,if_false,Array.empty_append,Array.size_map];have qL:0<left.size:=Nat.pos_of_ne_zero fun h0=>Yh (by simpa using h0);obtain⟨k,w1,hk,rH,hheap,ht1⟩:=pickk _ qL;have dq:left[k]?=some left[k]:=Array.getElem?_eq_getElem rH;obtain⟨q,eJ,kD,hq3,hq4,hq5⟩:=w6 left[k] (Array.getElem_mem rH);cases h;refine⟨_,KY (by rw[<-qy];exact eJ),?_⟩;have hx1:w1.heap[(C.a r).b]?=some (.mapIter (some (C.a m).b) clock jE clock):=by rw[hheap];exact hx
    obtain⟨CF,ht⟩:=BT (P:=P) ht1.c hb (.g C) (fun _ h=>h) rfl rfl (fun k n h=> .inl h) hx1 (by simp)
     (OR.aO (C:=C) (b:=r) (m:=m) (since:=clock) (Xv:=clock) (seen:=seen++[q.2.2]) (arr:=jE.push left[k].born) hdm (fun n hn=>by
      rcases List.mem_append.1 hn with hn|hn
      .exact hgs n hn
      .simp only[Qp]at hn;subst hn;exact hq4) (by simp[oz,hq5]) gz)
    refine⟨C,.tuple #[.bool true,left[k].key,left[k].val],_,?_,ht1.u ht,.J (.J (.bool true) (.J kD (.A hq3)))⟩;simp only[hk,Result.andThen_ok,Array.getElem?_map,dq,Option.map_some,CF]
  .cases h
 .cases h
theorem GB {n:Nat} {e:XA}:∀ {es:List XA},iK n es=some e->e∈es/\e.2.2=n
 |a::l,h=>by
  simp only[iK]at h;cases hq:Nat.beq a.2.2 n with
  |true=>rw[hq]at h;cases h;exact⟨Qh ..,Qb hq⟩
  |false=>
   rw[hq]at h;obtain⟨h1,h2⟩:=GB h;exact⟨Qg _ h1,h2⟩
theorem Ll {n:Nat}:∀ {l:List Nat},vp l=some n->∃r,l=r++[n]
 | [],h=>by cases h
 | [a],h=>by cases h;exact⟨[],rfl⟩
 |a::b::l,h=>by
  obtain⟨r,hr⟩:=Ll (l:=b::l) h;exact⟨a::r,by rw[hr];rfl⟩
theorem w7 {o:Oper} {it:Operand} (ho:o.op= .entry it):W5 E P o (.c_ fun T s=>(Ci E it T).bind (pz s)):=by
 intro C T a S w hg hT hS v h;obtain⟨av,jW,h⟩:=Qa.1 h;have hv:=Al hg hT jW;obtain⟨r,mQ,h1⟩:=PW h;subst mQ;replace h:=h1;clear h1;generalize hq:a.eval it=q at hv;cases hv with
 |aG tt=>
 unfold py at h;split at h
 .next m since seen Xv hb=>
  obtain⟨n,hn,h⟩:=Qa.1 h;obtain⟨hd,x,hx,hr⟩:=hS.a r _ hb;cases hr with
  | @aO _ _ _ _ jE hdm hgs oz gz=>
  rw[gz]at hq;have ZP:=AE (P:=P) (w:=w) hx (by simp);unfold te at h;split at h
  .next es clock uP=>
   obtain⟨arr,l,hm⟩:=hS.z uP;cases Y8:Nat.beq clock Xv with
   |false=>rw[Y8]at h;cases h
   |true=>
   rw[Y8]at h;have h1:=Qb Y8;obtain⟨e,he,h⟩:=Qa.1 h;cases h;subst h1;obtain⟨XU,XM⟩:=GB he;obtain⟨me,sf,g1,g2,g3,g4⟩:=hm.i.g XU;have w4:=AE (P:=P) (w:=w) hm.f (by simp);obtain⟨pre,kE⟩:=Ll hn;have tv:jE.back?=some (C.b m n):=by
    have:jE=(pre.map (C.b m)).toArray.push (C.b m n):=by apply Array.ext';simp[oz,kE]
    rw[this];simp
   have hfind:arr.find? (fun e=>e.born==C.b m n)=some me:=by
    cases hf:arr.find? (fun e=>e.born==C.b m n)with
    |none=>
     have:=Array.find?_eq_none.1 hf me (by rw[<-Array.mem_toList_iff];exact hm.a.mem_iff.1 sf);rw[g4,XM]at this;simp at this
    |some m'=>
     have h1:=Array.find?_some hf;have h2:m'∈l:=hm.a.mem_iff.2 (Array.mem_toList_iff.2 (Array.mem_of_find?_eq_some hf));have h3:m'.born=C.b m n:=by simpa using h1
     rw[Bh hm.c h2 sf (by rw[h3,g4,XM])]
   refine⟨.tuple #[me.key,me.val],?_,.J (.J g1 (.A g2))⟩;simp[execOp,ho,Instr.entry,hq,ZP,tv,w4,hfind]
  .cases h
 .cases h
end
section
variable {E : c_} {P : Program} (he : Wd E P)
include he
omit he in
theorem wrapNil (t:TypeId) (a:Addr) (x y:ByteArray):Builtin.ssaWrapNilChk_ #[t] t #[.pointer (some a),.string x,.string y]=pure (.pointer (some a)):=rfl
theorem Ky {f g:FuncId} {t:TypeId} {p:Bool} {rc:H'} (h:jv E none f t p=some (g,rc)) {C:Cx} {S:St} {w:World} (hS:WW C S w) {v r:AV} {x:Value} (hv:VR C v x)
 (hr:cn E S v rc=some r) (wr:Option String):g=f/\∃y,(receiverAt t (.val x) p wr).run P w= .ok y w/\VR C r y:=by
 unfold jv at h;split at h
 .
   split at h
   .next e hu heq=>
    cases h;simp only[cn,rX]at hr;cases hr;exact⟨U,x,by simp[receiverAt,Ag he hu,Place.get],hv⟩
   .contradiction
   .contradiction
   .cases h
 .split at h
  .next e hu heq=>
   cases h;simp only[cn,rX,Qe]at hr;obtain⟨a,y,rfl,hl,hy⟩:=GS (P:=P) he hS hv hr;refine⟨U,y,?_,hy⟩;cases wr with
   |none=>simp[receiverAt,Ag he hu,Place.get,asAddr,hl]
   |some nm=>simp[receiverAt,Ag he hu,Place.get,wrapNil,strVal,asAddr,hl]
  .contradiction
  .next d uT hu heq=>
   cases h;simp only[cn,rX]at hr;cases hr;refine⟨U,x,?_,hv⟩;simp only[receiverAt,Sem.run_bind,Ag he hu,Result.andThen_ok];cases d<;>first|rfl|exact absurd hu (by have:=uT;simp_all)
  .contradiction
  .cases h
theorem Kx {f g:FuncId} {t:TypeId} {p:Bool} {rc:H'} {n:Nat} (h:jv E (some n) f t p=some (g,rc)) {C:Cx} {S:St} {w:World} (hS:WW C S w) {v r:AV} {x:Value} (hv:VR C v x)
 (hr:cn E S v rc=some r) (wr:Option String):g=f/\∃a y,x= .pointer (some a)/\(receiverAt t (.var (a.add n)) p wr).run P w= .ok y w/\VR C r y:=by
 unfold jv at h;split at h
 .split at h
  .contradiction
  .next e m hu heq=>
   cases h;cases heq;simp only[cn,rX]at hr;obtain⟨q,hq,hr⟩:=Qa.1 hr;obtain⟨a,rfl,vT⟩:=EB hv hq;obtain⟨a',y,ha',hl,hy⟩:=GS (P:=P) he hS vT hr;cases ha';exact⟨U,a,y,U,by simp[receiverAt,Ag he hu,Place.get,hl],hy⟩
  .next d m uT hu heq=>
   cases h;cases heq;simp only[cn,rX]at hr;obtain⟨q,hq,hr⟩:=Qa.1 hr;cases hr;obtain⟨a,rfl,vT⟩:=EB hv hq;refine⟨U,a,_,U,?_,vT⟩;simp only[receiverAt,Sem.run_bind,Ag he hu,Result.andThen_ok];cases d<;>first|rfl|exact absurd hu (by have:=uT;simp_all)
  .cases h
 .split at h
  .contradiction
  .cases h
  .contradiction
  .next d m uT hu heq=>
   cases h;cases heq;simp only[cn,rX]at hr;obtain⟨q,hq,hr⟩:=Qa.1 hr;obtain⟨a,rfl,vT⟩:=EB hv hq;obtain⟨a',y,ha',hl,hy⟩:=GS (P:=P) he hS vT hr;cases ha';refine⟨U,a,y,U,?_,hy⟩;simp only[receiverAt,Sem.run_bind,Ag he hu,Result.andThen_ok];cases d<;>first|exact hl|exact absurd hu (by have:=uT;simp_all)
  .cases h
theorem w8 {t:TypeId} {i:TypeInfo} (hi:E.b.g t=some i) {name:String} {m:Method} (hm:i.methods.toList.find? (·.name==name)=some m) (w:World):
 (typeInfo t).run P w= .ok i w/\i.methods.find? (·.name==name)=some m:=
 ⟨BA he hi w,by rw[<-hm,Array.find?_toList]⟩
omit he in
theorem EJ {st:FieldStep} {q:Nat×TypeId} (h:K_ E st=some q):∃fields f k,st.deref=true/\Wb E st.struct=some (.struct fields)/\fields[st.index]?=some f/\f.offset=q.1/\f.type=q.2/\
 Am.an E f.type=some (k+1):=by
 unfold K_ at h;cases hd:st.deref with
 |false=>rw[hd]at h;cases h
 |true=>
 rw[hd]at h;simp only[cond_true]at h;split at h
 .next fields hu=>
  obtain⟨f,hf,h⟩:=Qa.1 h;split at h
  .next k hk=>
   cases h;rw[E4]at hf;exact⟨fields,f,k,U,hu,by simpa using hf,U,U,hk⟩
  .cases h
 .cases h
theorem PP {st:FieldStep} {fields:Array Field} {f:Field} {k:Nat} (hd:st.deref=true) (hu:Wb E st.struct=some (.struct fields)) (hf:fields[st.index]?=some f) (hs:Am.an E f.type=some (k+1))
 (t:TypeId) (a:Addr) (w:World):(follow [st] t (.val (.pointer (some a)))).run P w= .ok (f.type,.var (a.add f.offset)) w:=by
 simp[follow,Ag he hu,hf,hd,Place.get,asAddr,fieldPlace,A1 he hs]
theorem U3 {t:TypeId} {name:String} {g:FuncId} {rc:H'} (h:p_ E t name=some (g,rc)) {C:Cx} {S:St} {w:World} (hS:WW C S w) {v r:AV} {x:Value} (hv:VR C v x)
 (hr:cn E S v rc=some r) (fuel:Nat):∃y,(method (fuel+1) t x name).run P w= .ok (g,y) w/\VR C r y:=by
 unfold p_ at h;obtain⟨i,hi,h⟩:=Qa.1 h;obtain⟨m,hm,h⟩:=Qa.1 h;obtain⟨hti,hfi⟩:=w8 he hi hm w;split at h
 .next f p tx tz=>
  obtain⟨hgf,y,hy,ir⟩:=Ky he h hS hv hr (if m.path.isEmpty then some ((name.splitOn ".").getLastD name)else none);subst hgf;refine⟨y,?_,ir⟩;unfold method;simp only[Sem.run_bind,hti,Result.andThen_ok,hfi,tx,follow,Sem.run_pure,tz,hy]
 .next st f p tx tz=>
  cases hd:st.deref with
  |true=>
   rw[hd]at h;simp only[cond_true]at h;obtain⟨q,hq,h⟩:=Qa.1 h;obtain⟨fields,fl,k,h1,h2,h3,h4,h5,h6⟩:=EJ hq;obtain⟨hgf,a,y,rfl,hy,ir⟩:=Kx he h hS hv hr (if m.path.isEmpty then some ((name.splitOn ".").getLastD name)else none);subst hgf;refine⟨y,?_,ir⟩;unfold method;simp only[Sem.run_bind,hti,Result.andThen_ok,hfi,tx,PP he h1 h2 h3 h6,tz,h4,h5,hy,Sem.run_pure]
  |false=>
   rw[hd]at h;simp only[cond_false]at h;split at h
   .next pb fields hu=>
    obtain⟨fl,jF,h⟩:=Qa.1 h;cases jV:rW E fl.type with
    |true=>rw[jV]at h;cases h
    |false=>
    rw[jV]at h;simp only[cond_false]at h;obtain⟨n,hn,h⟩:=Qa.1 h;obtain⟨ag,hag,h⟩:=Qa.1 h;cases h;rw[E4]at jF;have hfl':fields[st.index]?=some fl:=by simpa using jF
    have hpart:∃cs y,x= .agg cs/\(part fl.type cs fl.offset).run P w= .ok y w/\VR C r y:=by
     cases hag':ag with
     |true=>
      subst hag';simp only[cn]at hr;cases v<;>try (cases hr;done)
      rename_i cs
      simp only[cW]at hr;cases hv with
      |a_ Xr WS=>
      rename_i xs
      obtain⟨l,hl,hr⟩:=Qa.1 hr;cases hq:pa n l with
      |none=>rw[hq]at hr;cases hr
      |some l'=>
      rw[hq]at hr;cases hr;obtain⟨y,hy,ir⟩:=Fk (P:=P) he hag hn Xr WS (off:=fl.offset) (q:=l') (by unfold v_;rw[hl];exact hq) w;exact⟨xs,y,U,hy,ir⟩
     |false=>
      subst hag';simp only[cn]at hr;cases v<;>try (cases hr;done)
      rename_i cs
      simp only[bl]at hr;cases hv with
      |a_ Xr WS=>
      rename_i xs
      obtain⟨y,hy,ir⟩:=Ef (P:=P) he hag Xr hr w;exact⟨xs,y,U,hy,ir⟩
    obtain⟨cs,y,rfl,hy,ir⟩:=hpart;refine⟨y,?_,ir⟩;have hund:∃d,Wb E fl.type=some d/\∀e,d≠ .pointer e:=by
     unfold Am.j' at hag;cases kY:Wb E fl.type with
     |none=>rw[kY]at hag;simp at hag
     |some d=>
      refine⟨d,U,?_⟩;rintro e rfl;simp[rW,kY]at jV
    obtain⟨d,tt,uT⟩:=hund;have hrecv:∀wr,(receiverAt fl.type (.val y) false wr).run P w= .ok y w:=by
     intro wr;simp only[receiverAt,Sem.run_bind,Ag he tt,Result.andThen_ok];cases d<;>first|rfl|exact absurd rfl (uT _)
    unfold method;simp only[Sem.run_bind,hti,Result.andThen_ok,hfi,tx,follow,Ag he hu,hfl',hd,Bool.false_eq_true,if_false,hy,Sem.run_pure,tz,hrecv]
   .cases h
 .cases h
omit he in
theorem SP (P:Program):∃k,P.types.size+Made.depth=k+1:=⟨P.types.size+99,rfl⟩
omit he in
theorem Pw {o:Oper} {x:Operand} (ho:o.op= .nilCheck x):W5 E P o (.O fun T=>(Ci E x T).bind qD):=by
 intro C T a S w hg hT hS v h;obtain⟨av,jW,h⟩:=Qa.1 h;have hv:=Al hg hT jW;have plain:∀y,a.eval x=y->(∀n f c,y≠ .func (.method n) f c)->y≠ .pointer none->y≠ .nilIface->y≠ .nilFunc->(execOp a.eval o).run P w= .ok (.value y) w:=by
  intro y hy h1 h2 h3 h4;simp only[execOp,ho,hy];first|rfl|(split<;>first|(exfalso;first|exact h2 rfl|exact h3 rfl|exact h4 rfl|exact h1 _ _ _ rfl)|rfl)
 generalize hq:a.eval x=q at hv;unfold qD at h;split at h
 .cases h;cases hv with
  |aG hd=>exact⟨_,plain _ hq (by simp) (by simp) (by simp) (by simp),.aG hd⟩
 .cases h;cases hv with
  |XD hm ha Xr hc=>exact⟨_,plain _ hq (by simp) (by simp) (by simp) (by simp),.XD hm ha Xr hc⟩
 .cases h;cases hv with
  |Z hf ha hb=>exact⟨_,plain _ hq (by simp) (by simp) (by simp) (by simp),.Z hf ha hb⟩
 .cases h;cases hv with
  |Z hf ha hb=>exact absurd rfl (hf _)
  |bW hd=>exact⟨_,plain _ hq (by simp) (by simp) (by simp) (by simp),.bW hd⟩
 .cases h
end
section
variable {E : c_} {P : Program} (he : Wd E P)
include he
theorem DZ {f:FuncId} (h:CV E f=true) (args:Array Value) (w:World):(callFunc f args).run P w= .ok (.enter f args) w:=by
 unfold CV at h;split at h
 .next fn hf=>
  have hp:=he.d f fn hf;split at h
  .next b hb=>
   have hl:=he.b f fn hf;have ZI:¬fn.name= "runtime.NumGoroutine" :=by simpa using hl
   simp[callFunc,hp,ZI,hb]
  .cases h
 .cases h
theorem GX {C:Cx} {S:St} {w:World} (hS:WW C S w) {name:String} {args rest:List AV} {v:AV} {f:FuncId} {x:Value} {xs:List Value} (hv:VR C v x) (ha:Wx C args xs)
 (h:aV E S name args v=some (f,rest)):∃ys,(callMethod x name xs.toArray).run P w= .ok (.enter f ys) w/\Wx C rest ys.toList:=by
 unfold aV at h;split at h
 .next t u=>
  obtain⟨m,hm,h⟩:=Qa.1 h;cases hb:CV E m.1 with
  |false=>rw[hb]at h;cases h
  |true=>
  rw[hb]at h;simp only[cond_true]at h;obtain⟨r,hr,h⟩:=Qa.1 h;cases h;cases hv with
  |Y hu=>
  obtain⟨k,hk⟩:=SP P;obtain⟨y,hy,ir⟩:=U3 he (t:=t) (name:=name) (g:=m.1) (rc:=m.2) hm hS hu hr k;refine⟨#[y]++xs.toArray,?_,by simpa using Wx.J ir ha⟩;simp only[callMethod,Sem.run_bind];have:(program).run P w= .ok P w:=rfl;simp only[this,Result.andThen_ok,hk,hy,DZ he hb]
 .cases h
omit he in
theorem Gb (c:Call) (ρ:Operand->Value):c.args.map ρ=(c.args.toList.map ρ).toArray:=by apply Array.ext';simp
theorem Py {o:Oper} {c:Call} {f:FuncId} (ho:o.op= .call c) (hc:c.callee= .value (.func f)) (hb:CV E f=true):
 W5 E P o (.aG fun T _=>(CZ E c.args.toList T).bind fun args=>some (f,args)):=by
 intro C T a S w hg hT hS g args h;obtain⟨as,has,h⟩:=Qa.1 h;cases h;refine⟨(c.args.toList.map a.eval).toArray,?_,by simpa using Ei hg hT has⟩;simp only[execOp,ho,resolve,hc,Act.eval,Deferred.ofValue,Sem.run_bind,Sem.run_pure,Result.andThen_ok,invoke,Array.empty_append,Array.append_empty];rw[Gb,DZ he hb]
omit he in
theorem w9 {o:Oper} {c:Call} {x:Operand} (ho:o.op= .call c) (hc:c.callee= .value x):W5 E P o (.Z1 (Ci E x) (CZ E c.args.toList)):=by
 intro C T a S w hg hT hS g args h1 h2;refine⟨a.eval x,(c.args.toList.map a.eval).toArray,Al hg hT h1,by simpa using Ei hg hT h2,?_⟩;simp only[execOp,ho,resolve,hc];rw[Gb]
theorem Uo {o:Oper} {c:Call} {r:Operand} {name:String} (ho:o.op= .call c) (hc:c.callee= .invoke r name):
 W5 E P o (.aG fun T s=>(CZ E c.args.toList T).bind fun args=>(Ci E r T).bind (aV E s name args)):=by
 intro C T a S w hg hT hS g args h;obtain⟨as,has,h⟩:=Qa.1 h;obtain⟨v,hv,h⟩:=Qa.1 h;obtain⟨ys,hy,ir⟩:=GX he hS (Al hg hT hv) (Ei hg hT has) h;refine⟨ys,?_,ir⟩;simp only[execOp,ho,resolve,hc,Sem.run_bind,Sem.run_pure,Result.andThen_ok,invoke,Gb];have h0:(#[a.eval r]++(c.args.toList.map a.eval).toArray)[0]?=some (a.eval r):=by simp
 have h1:(#[a.eval r]++(c.args.toList.map a.eval).toArray).extract 1 (#[a.eval r]++(c.args.toList.map a.eval).toArray).size=(c.args.toList.map a.eval).toArray:=by
  apply Array.ext';simp only[Array.toList_extract,Array.toList_append,List.toList_toArray,Array.size_append];simp;rw[List.take_of_length_le (by simp)]
 simp only[h0,h1];exact hy
omit he in
theorem wC {o:Oper} {c:Call} (ho:o.op= .defer c):W5 E P o (gV E c):=by
 unfold gV;split
 .next x hc=>
  intro C T a S w hg hT hS d h;obtain⟨f,hf,h⟩:=Qa.1 h;obtain⟨as,has,h⟩:=Qa.1 h;have hv:=Al hg hT hf;cases f with
  |an fn fa ca=>
   simp only[jw]at h;cases hy:fL fn with
   |true=>rw[hy]at h;cases h
   |false=>
   rw[hy]at h;cases h;generalize hq:a.eval x=q at hv;cases hv with
   |bW hd=>cases hy
   |Z qM ha hb=>
   rename_i xs ys
   refine⟨⟨.fn fn ys,xs++(c.args.toList.map a.eval).toArray⟩,?_,.O qM (by simpa using ha.u (Ei hg hT has)) hb⟩;simp only[execOp,ho,resolve,hc,hq,Deferred.ofValue,Sem.run_bind,Sem.run_pure,Result.andThen_ok,Gb]
  |_=>simp[jw]at h
 .exact W5.bad
omit he in
theorem So {o:Oper} {c:Call} (ho:o.op= .call c) (hc:c.callee= .builtin .recover):W5 E P o .Z:=by
 intro C T a S w hg hT hS;simp[execOp,ho,resolve,hc,invoke,builtin]
omit he in
theorem Vm {f:AV->AV->Option AV} {G:Value->Value->Sem Value} (hf:∀(C:Cx) (w:World) v u y z r,VR C v y->VR C u z->f v u=some r->∃q,(G y z).run P w= .ok q w/\VR C r q) {C:Cx} {w:World}:
 ∀ {l:List AV} {xs:List Value} {v r:AV} {x:Value},Wx C l xs->VR C v x->oe f l v=some r->∃q,(xs.foldlM G x).run P w= .ok q w/\VR C r q
 |_,_,v,r,x,.O,hv,h=>by cases h;exact⟨x,rfl,hv⟩
 |_::_,_,v,r,x,.J h1 t,hv,h=>by
  simp only[oe]at h;obtain⟨z,hz,h⟩:=Qa.1 h;obtain⟨q,hq,hr⟩:=hf C w _ _ _ _ z hv h1 hz;obtain⟨q',hq',dV⟩:=Vm hf (w:=w) t hr h;exact⟨q',by simp only[List.foldlM_cons,Sem.run_bind,hq,Result.andThen_ok,hq'],dV⟩
omit he in
omit he in
theorem ok_min {o:Oper} {c:Call} {xs:List Operand} (ho:o.op= .call c) (hc:c.callee= .builtin .min) (gu:c.args.toList=xs):W5 E P o (maxC E nZ xs):=by
 cases xs with
 |nil=>exact W5.bad
 |cons x l=>
  intro C T a S w hg hT hS v h;obtain⟨u,hu,h⟩:=Qa.1 h;obtain⟨r,hr,h⟩:=Qa.1 h;obtain⟨q,hq,hvq⟩:=Vm (P:=P) (f:=nZ) (G:=Builtin.min2) (fun C w v u y z r hv hu h=>by
   unfold nZ at h;split at h
   .cases h;cases hv;cases hu;exact⟨_,rfl,.int _ _⟩
   .cases h) (w:=w) (Ei hg hT hr) (Al hg hT hu) h
  refine⟨q,?_,hvq⟩;simp only[execOp,ho,resolve,hc,Sem.run_bind,Sem.run_pure,Result.andThen_ok,invoke,builtin,Builtin.min_,Gb,gu,List.map_cons,hq]
end
structure ZW (E:c_) (P:Program):Prop where
 b:E.f=true->∀ {o:Oper} {c:Call} {f:FuncId},o.op= .call c->c.callee= .value (.func f)->CV E f=false->W5 E P o (iN E f (B' E f) c.args.toList)
 a:E.f=true->∀ {o:Oper} {c:Call} {x:Operand},o.op= .call c->c.callee= .builtin .unsafeSliceData->c.args.toList=[x]->W5 E P o (tf E o.type x)
 d:E.f=true->∀ {o:Oper} {c:Call} {t:TypeId} {ts:List TypeId} {x y:Operand},o.op= .call c->c.callee= .builtin .unsafeString->c.argTypes.toList=t::ts->c.args.toList=[x,y]->W5 E P o (kQ E t x y)
section
variable {E : c_} {P : Program} (he : Wd E P) (hx : ZW E P)
include he hx
theorem S4 {o:Oper} {c:Call} {b:Builtin} (ho:o.op= .call c) (hc:c.callee= .builtin b):W5 E P o (eY E o.type b c.argTypes.toList c.args.toList):=by
 unfold eY;split
 .next h1 h2=>exact Ux he ho hc h1 h2
 .next h1 h2=>exact ok_len he ho hc (by rw[h1];rfl) h2
 .next h1 h2=>exact ok_cap he ho hc (by rw[h1];rfl) h2
 .next h1 h2=>exact ok_copy he ho hc h1 h2
 .next h1 h2=>exact Uv he ho hc h1 h2
 .next h2=>
  cases he:E.f with
  |true=>exact hx.a he ho hc h2
  |false=>exact W5.bad
 .next h1 h2=>
  cases he:E.f with
  |true=>exact hx.d he ho hc h1 h2
  |false=>exact W5.bad
 .exact ok_min ho hc U
 .exact So ho hc
 .exact W5.bad
theorem ok_call {o:Oper} {c:Call} (ho:o.op= .call c):W5 E P o (Wo E o.type c):=by
 unfold Wo;split
 .next b hc=>exact S4 he hx ho hc
 .next f hc=>
  cases hb:CV E f with
  |true=>exact Py he ho hc hb
  |false=>
   cases he:E.f with
   |true=>exact hx.b he ho hc hb
   |false=>exact W5.bad
 .next x _ hc=>exact w9 ho hc
 .next r name hc=>exact Uo he ho hc
theorem tA (o:Oper):W5 E P o (XL E o.type o.op):=by
 unfold XL;split
 .next h=>exact Um (.inl h)
 .next h=>exact Um (.inr h)
 .next h=>exact Y' h
 .next h=>exact vG he h
 .next h=>exact ok_box h
 .next h=>exact vH he h
 .next h=>exact Mt he h
 .next h=>exact Z_ he h
 .next h=>exact vN he h
 .next h=>exact Pw h
 .next h=>exact ok_bin he h
 .next h=>exact Z' h
 .next h=>exact ok_conv he h
 .next h=>exact NH he h
 .next h=>exact Px h
 .next h=>exact Su he h
 .next h=>exact NG he h
 .next h=>exact S_ he h
 .next h=>exact NJ he h
 .next h=>exact vJ he h
 .next h=>exact NI he h
 .next h=>exact vM he h
 .next h=>exact Un he h
 .next h=>exact NF he (.inl h)
 .next h=>exact NF he (.inr h)
 .next h=>exact wz he h
 .next it isString h=>
  cases isString with
  |true=>exact Sp h
  |false=>exact Ss h
 .next h=>exact w7 h
 .next h=>exact Uw he h
 .next h=>exact Sw h
 .next h=>exact ok_call he hx h
 .next h=>exact wC h
 .next h=>exact vO h
 .exact W5.bad
end
end Am
