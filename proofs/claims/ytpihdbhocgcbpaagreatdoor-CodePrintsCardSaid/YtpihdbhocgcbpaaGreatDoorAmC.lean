/- The abstract machine: its operations are the model's, second part. -/
import Derived.Test.YtpihdbhocgcbpaaGreatDoorAmB
import Derived.Maps.AppendAt
set_option linter.unusedSectionVars false
set_option linter.unusedVariables false
set_option linter.unusedSimpArgs false
namespace Am
open Go
section
variable {E : Env} {P : Program} (he : CN E P)
theorem Hn (z:Array Value) (n:Nat):(Builtin.zeroCells z n).size=n*z.size:=by simp[Builtin.zeroCells]
theorem wb {C:Cx} {S:St} {w:World} (hS:Wn C S w) {jC new:List AV} {YO xs:List Value} (ho:VS C jC YO) (hn:VS C new xs) (zP:Cells jC) (iL:Cells new)
 {e:TypeId} {sz len n nc:Nat} {z:Array Value} (hz:z.size=sz) (jh:0<sz) (zQ:YO.length=len*sz) (pS:xs.length=n*sz) (hnc:len+n≤nc):
 ∃C',Cv C S w C' (S.alloc (.cells (jC++new) e true)) (w.drew.alloc (.cells (YO.toArray++(xs.toArray++Builtin.zeroCells z (nc-(len+n)))) e))∧
  VR C' (.slice S.next 0 (len+n) sz none) (.slice (some ⟨w.heap.size,0,none⟩) (len+n) nc):=by
 have gN:=Cv.drew hS (w.drawn+1);have qK:(YO.toArray++(xs.toArray++Builtin.zeroCells z (nc-(len+n)))).size=nc*sz:=by
  simp only[Array.size_append,List.size_toArray,Hn,zQ,pS,hz];rw[←Nat.add_assoc,←Nat.add_mul,←Nat.add_mul]
  congr 1;omega
 refine⟨_,gN.trans (EI gN.st (cs:=jC++new) (vs:=YO++xs) (ex:=(Builtin.zeroCells z (nc-(len+n))).toList) (ho.append hn) ?_ (zP.append iL) e true (fun h=>by cases h)),?_⟩
 ·simp
 ·exact Fa (cap:=none) ⟨qK.symm,jh⟩ hnc
theorem rf {C:Cx} {S:St} {w:World} (hS:Wn C S w) {b off len n c sz:Nat} {e:TypeId} {cs jC new:List AV} {xs:List Value} {part:Bool} (hb:S.heap.get b=some (.cells cs e part))
 (hold:cut cs off (len*sz)=some jC) (hn:VS C new xs) (iL:Cells new) (pS:xs.length=n*sz) (Zb:(C.pl b).base+off+c*sz=(C.pl b).size) (jh:0<sz) (YD:len+n≤c):
 ∃C' w',(storeCells ⟨(C.pl b).Cn,(C.pl b).base+off+len*sz,none⟩ xs).run P w= .ok () w'∧Cv C S w C' ((S.put b none).alloc (.cells (jC++new) e true)) w'∧
  VR C' (.slice S.next 0 (len+n) sz none) (.slice (some ⟨(C.pl b).Cn,(C.pl b).base+off,none⟩) (len+n) c):=by
 obtain⟨hd,x,hx,hr⟩:=hS.live b _ hb;cases hr with
 |cells Wk ha XA VX hf hp=>
 rename_i cc fr vs
 obtain⟨y,hy,hyd,zQ,zP,_,ZZ⟩:=Wk.cut hold;have hyl:y.length=len*sz:=hy.length.trans zQ;have hmul:(len+n)*sz≤c*sz:=Nat.mul_le_mul_right sz YD;rw[Nat.add_mul]at hmul;have z7:∀u∈xs,u.oneCell'=true:=by
  intro u hu;obtain⟨i,hi⟩:=List.getElem?_of_mem hu;have vg:i<new.length:=by
   have:=hn.length;rcases Nat.lt_or_ge i xs.length with h'|h'
   ·omega
   ·rw[List.getElem?_eq_none h']at hi;cases hi
  obtain⟨y',mh,hr⟩:=hn.get (Qi vg);rw[hi]at mh;cases mh;exact hr.ox (iL _ (Ql vg))
 have C5:=F3 (P:=P) xs (Cn:=(C.pl b).Cn) (off:=(C.pl b).base+off+len*sz) (i:=0) hx hf (by omega) z7;refine⟨C.Cw S.next ⟨(C.pl b).Cn,(C.pl b).base+off,(C.pl b).size⟩,_,by simpa using C5,?_,?_⟩
 ·refine MV hS hb _ _ ((C.pl b).base+off) (C.pl b).size ?_;have Y0:=Ext.Cw (C:=C) (b:=S.next) (p:=⟨(C.pl b).Cn,(C.pl b).base+off,(C.pl b).size⟩) (fun hd=>Nat.lt_irrefl _ (hS.fresh _ hd));have hxat:∃pre b7 post,cc.toList=pre++y++b7++post∧pre.length=(C.pl b).base+off∧b7.length=xs.length:=by
   obtain⟨p1,q1,e1,e2⟩:=ha;obtain⟨p2,q2,e3,e4⟩:=ZZ;have hlen:=congrArg List.length e1;rw[e3]at hlen;simp only[Qm,Array.length_toList]at hlen;refine⟨p1++p2,(q2++q1).take xs.length,(q2++q1).drop xs.length,?_,by simp[e2,e4],?_⟩
   ·rw[e1,e3,List.append_assoc _ (List.take _ _),List.take_append_drop];simp
   ·rw[List.length_take];apply Nat.min_eq_left;simp only[Qm];omega
  obtain⟨pre,b7,post,XK,X3,jr⟩:=hxat;have ae:=GO xs cc ((C.pl b).base+off+len*sz) (pre++y) b7 post XK (by simp[X3,hyl]) jr;refine .cells (vs:=y++xs) ((hy.append hn).mono Y0) ?_ ?_ ((zP VX).append iL) (by rw[EH];exact hf) (fun h=>by cases h)
  ·rw[Bx,ae];exact⟨pre,post,by simp,X3⟩
  ·rw[Bx,EH];exact XA
 ·have:=VR.slice (C:=C.Cw S.next ⟨(C.pl b).Cn,(C.pl b).base+off,(C.pl b).size⟩) (b:=S.next) (off:=0) (len:=len+n) (sz:=sz) (cap:=none) (c:=c) (Jz _ _ _)
   (by simp only[mf,Bx];exact⟨by simpa using Zb,jh⟩) YD
  rw[Bx]at this;exact this
end
section
variable {E : Env} {P : Program} (he : CN E P)
theorem Vh (w:World):w.drew.heap=w.heap:=rfl
structure n5 (P:Program) (e:TypeId) (sz WJ n:Nat) (xs:List Value) (z:Array Value) (x:Value) (R:Sem Value) (w:World):Prop where
 fit:∀a len cap w',x= .slice a len cap→len+n≤cap→ax P a (len*sz) xs w w'→
  R.run P w= .ok (.slice a (len+n) cap) w'
 more:∀a len cap YO,x= .slice a len cap→cap<len+n→small (len+n) WJ=true→n≠0→(Builtin.firstCells sz len x).run P w.drew= .ok YO w.drew→
  R.run P w= .ok (.slice (some ⟨w.heap.size,0,none⟩) (len+n) (grownCap w (len+n) cap e))
   (w.drew.alloc (.cells (YO++(xs.toArray++Builtin.zeroCells z (grownCap w (len+n) cap e-(len+n)))) e))
theorem S5 {sz len n:Nat} {cap:Option Nat} {l:List AV} (h:eT sz len n cap l=true):match cap with|some c=>len+n≤c|none=>(len+n)*sz≤l.length:=by
 cases cap with
 |some c=>exact Qc h
 |none=>have:=Qc h;simpa using this
theorem UV {sz len n:Nat} {cap:Option Nat} {l:List AV} (h:eT sz len n cap l=false):∀c,cap=some c→c<len+n:=by
 rintro c rfl;simp only[eT]at h;rcases Nat.lt_or_ge c (len+n)with h'|h'
 ·exact h'
 ·have:Nat.ble (len+n) c=true:=Qd h';rw[this]at h;cases h
theorem KF {C:Cx} {S S':St} {w:World} (hS:Wn C S w) {e:TypeId} {sz WJ n:Nat} (jh:sz≠0) {new:List AV} {xs:List Value} {z:Array Value} {v r:AV} {x:Value} {R:Sem Value}
 (hv:VR C v x) (hn:VS C new xs) (iL:Cells new) (pS:xs.length=n*sz) (hz:z.size=sz) (hR:n5 P e sz WJ n xs z x R w)
 (h:CA S e sz WJ new n v=some (r,S')):∃C' y w',R.run P w= .ok y w'∧Cv C S w C' S' w'∧VR C' r y:=by
 have none_:∀a len cap,x= .slice a len cap→len≤cap→n=0→R.run P w= .ok x w:=by
  intro a len cap hx Yl h0;subst h0;have:xs=[]:=List.eq_nil_of_length_eq_zero (by simpa using pS);subst this;have:=hR.fit a len cap w hx Yl (by cases a<;>simp[ax,storeCells]);rw[this,hx];rfl
 have bz:∀ {b:Bool} {A B:Option (AV×St)},(b=true→A=some (r,S')→∃C' y w',R.run P w= .ok y w'∧Cv C S w C' S' w'∧VR C' r y)→
  (b=false→B=some (r,S')→∃C' y w',R.run P w= .ok y w'∧Cv C S w C' S' w'∧VR C' r y)→(bif b then A else B)=some (r,S')→
  ∃C' y w',R.run P w= .ok y w'∧Cv C S w C' S' w'∧VR C' r y:=by
  intro b A B ha hb h;cases b with
  |true=>exact ha rfl h
  |false=>exact hb rfl h
 have n0:Nat.beq n 0=false→n≠0:=by rintro h rfl;cases h
 have yI:∀ {S1:St},Cv C S w C S1 w→∀ {jC:List AV} {YO:List Value} {a:Option Addr} {len cap:Nat},x= .slice a len cap→cap<len+n→small (len+n) WJ=true→n≠0→
  VS C jC YO→Cells jC→YO.length=len*sz→(Builtin.firstCells sz len x).run P w.drew= .ok YO.toArray w.drew→
  r= .slice S1.next 0 (len+n) sz none→S'=S1.alloc (.cells (jC++new) e true)→∃C' y w',R.run P w= .ok y w'∧Cv C S w C' S' w'∧VR C' r y:=by
  intro S1 t1 jC YO a len cap hx YM Y1 mn ho zP zQ hfc hr ph;subst hr;subst ph;have C5:=hR.more a len cap YO.toArray hx YM Y1 mn hfc;obtain⟨C',t,oY⟩:=wb (e:=e) t1.st ho hn zP iL hz (Nat.pos_of_ne_zero jh) zQ pS (grownCap_ge w (len+n) cap e);exact⟨C',_,_,C5,t1.trans t,oY⟩
 have blocks:∀ {b off len c:Nat} {cap:Option Nat} {a:Addr},VR C (.slice b off len sz cap) x→x= .slice (some a) len c→C.D b→len≤c→
  (a=⟨(C.pl b).Cn,(C.pl b).base+off,none⟩∨(c=0∧cap=some 0))→
  (match cap with|some 0=>len=0∧(c=0∨(C.pl b).base+off+c*sz=(C.pl b).size)|some k=>c=k|none=>(C.pl b).base+off+c*sz=(C.pl b).size)→n≠0→small (len+n) WJ=true→
  YA S e sz new n b off len cap (S.heap.get b)=some (r,S')→∃C' y w',R.run P w= .ok y w'∧Cv C S w C' S' w'∧VR C' r y:=by
  intro b off len c cap a Yq hx hd Yl ha YM mn Y1 h;cases hb:S.heap.get b with
  |none=>rw[hb]at h;simp[YA]at h
  |some ob=>
  rw[hb]at h;unfold YA at h;split at h
  ·next cs e0 sl heq=>
   cases heq;unfold ZH at h;obtain⟨l,hl,h⟩:=Qa.1 h;revert h;refine bz ?_ ?_
   ·
     intro hf h;obtain⟨XS,fo,h⟩:=Qa.1 h;cases h;have hf':=S5 hf;have hw:Z3 S b (off+len*sz) new=some (S.put b (some (.cells XS e0 sl))):=by
      simp[Z3,hb,cZ,eH,fo]
     obtain⟨w',C5,t,_⟩:=LW (P:=P) hS hn iL hw;obtain⟨_,c',ty,fr,vs,oz,Wk,ZZ,XA,_,_⟩:=hS.cells (b:=b) (cs:=cs) (by rw[hb];rfl);have hle:len+n≤c:=by
      cases cap with
      |some k=>
       cases k with
       |zero=>simp only at hf';omega
       |succ k=>simp only at hf' YM;omega
      |none=>
       simp only at hf' YM;obtain⟨pre,gO,X3⟩:=Dz hl;have h1:=Wk.length;have h2:=ZZ.le;simp only[Array.length_toList]at h2;have h3:cs.length=off+l.length:=by rw[gO];simp[X3]
       have:(len+n)*sz≤c*sz:=by omega
       exact Nat.le_of_mul_le_mul_right this (Nat.pos_of_ne_zero jh)
     have zR:a=⟨(C.pl b).Cn,(C.pl b).base+off,none⟩:=by
      rcases ha with ha|⟨zS,dy⟩
      ·exact ha
      ·omega
     subst zR;refine⟨C,_,w',hR.fit _ _ _ w' hx hle ?_,t,?_⟩
     ·simp only[ax,B7];rw[Nat.add_assoc];exact C5
     ·refine .slice hd ?_ hle;cases cap with
      |some k=>
       cases k with
       |zero=>simp only at hf';omega
       |succ k=>exact⟨YM,by omega⟩
      |none=>exact⟨YM,Nat.pos_of_ne_zero jh⟩
   ·
     intro hf;refine bz ?_ (fun _ h=>by cases h);intro hc h;obtain⟨jC,hold,h⟩:=Qa.1 h;cases h;have hcut:cut cs off (len*sz)=some jC:=by unfold cut;rw[hl];exact hold
     have qM:Xa S sz (.slice b off len sz cap)=some (jC,len):=by
      simp[Xa,hb,VZ,hl,hold]
     obtain⟨YO,_,ho,zP,zQ,hfc⟩:=Im (P:=P) hS Yq qM;by_cases jR:len+n≤c
     ·have rh:bM cap=true:=by
       cases cap with
       |none=>rfl
       |some k=>
        cases k with
        |zero=>rfl
        |succ k=>have:=UV hf _ rfl;simp only at YM;omega
      have zT:e=e0:=by
       rw[rh]at hc;simp only[Bool.not_true,Bool.or_false]at hc;exact Qb hc
      subst zT;have zR:a=⟨(C.pl b).Cn,(C.pl b).base+off,none⟩∧(C.pl b).base+off+c*sz=(C.pl b).size:=by
       cases cap with
       |none=>exact⟨ha.resolve_right (fun h=>by cases h.2),YM⟩
       |some k=>
        cases k with
        |zero=>
         obtain⟨X9,vX⟩:=YM;have:c≠0:=by omega
         exact⟨ha.resolve_right (fun h=>this h.1),vX.resolve_left this⟩
        |succ k=>cases rh
      obtain⟨rfl,Zb⟩:=zR;obtain⟨C',w',C5,t,oY⟩:=rf (P:=P) hS hb hcut hn iL pS Zb (Nat.pos_of_ne_zero jh) jR;have bO:Xx S b cap=S.put b none:=by unfold Xx;rw[rh];rfl
      rw[bO];exact⟨C',_,w',hR.fit _ _ _ w' hx jR (by simp only[ax,B7];exact C5),t,oY⟩
     ·have t1:Cv C S w C (Xx S b cap) w:=by
       unfold Xx;cases bM cap with
       |true=>exact Cv.kill hS b
       |false=>exact Cv.refl hS
      refine yI t1 hx (by omega) Y1 mn ho zP zQ (hfc w.drew (Vh w)) ?_ U;unfold Xx;cases bM cap<;>rfl
  ·cases h
 cases hv with
 |Ca a pc=>
  simp only[CA]at h;revert h;refine bz ?_ ?_
  ·intro h0 h;cases h;have:=Qb h0;exact⟨C,_,w,none_ a 0 0 U (Qj _) this,Cv.refl hS,.Ca a pc⟩
  ·intro h0;refine bz ?_ (fun _ h=>by cases h);intro Y1 h;cases h;refine yI (Cv.refl hS) (YO:=[]) (jC:=[]) U (by have:=n0 h0;omega) (by simpa using Y1) (n0 h0) .nil (fun _ h=>by cases h) (by simp) ?_ (by simp) (by simp);cases a with
   |none=>rfl
   |some a=>simp[Builtin.firstCells,loadCells,loadCellsFrom]
 |VT a hl Yl=>
  simp only[CA]at h;revert h;refine bz ?_ (fun _ h=>by cases h);intro h0 h;cases h;have:=Qb h0;exact⟨C,_,w,none_ _ _ _ U Yl this,Cv.refl hS,.VT a hl Yl⟩
 |Cd hl hm ha Wk hc VX Yl=>
  simp only[CA]at h;revert h;refine bz ?_ (fun _ h=>by cases h);intro h0 h;cases h;have:=Qb h0;exact⟨C,_,w,none_ _ _ _ U Yl this,Cv.refl hS,.Cd hl hm ha Wk hc VX Yl⟩
 |slice hd hc Yl=>
  rename_i b off len Yp cap c
  simp only[CA]at h;revert h;refine bz ?_ ?_
  ·intro h0 h;cases h;have:=Qb h0;exact⟨C,_,w,none_ _ _ _ U Yl this,Cv.refl hS,.slice hd hc Yl⟩
  ·intro h0;refine bz ?_ (fun _ h=>by cases h);intro Y1 h;simp only[Qf]at Y1;have hz':Yp=sz:=Qb Y1.1;subst hz';refine blocks (.slice hd hc Yl) U hd Yl (.inl U) ?_ (n0 h0) Y1.2 h;cases cap with
   |none=>exact hc.1
   |some k=>
    cases k with
    |zero=>exact absurd hc.2 (Nat.lt_irrefl _)
    |succ k=>exact hc.1
 |Xj pc hd hc=>
  rename_i b off Yp a c
  simp only[CA]at h;revert h;refine bz ?_ ?_
  ·intro h0 h;cases h;have:=Qb h0;exact⟨C,_,w,none_ _ _ _ U (Qo _) this,Cv.refl hS,.Xj pc hd hc⟩
  ·intro h0;refine bz ?_ (fun _ h=>by cases h);intro Y1 h;simp only[Qf]at Y1;have hz':Yp=sz:=Qb Y1.1;subst hz';refine blocks (.Xj pc hd hc) U hd (Qo _) ?_ ⟨rfl,hc.imp id (fun h=>h.2.1)⟩ (n0 h0) Y1.2 h;rcases hc with h|h
   ·exact .inr ⟨h,rfl⟩
   ·exact .inl h.1
 |_=>simp[CA]at h
theorem Ho (z:Array Value) (n:Nat):(Builtin.zeroCells z n).toList=(List.replicate n z.toList).flatten:=JJ z n
include he
theorem HM {t:TypeId} {z:AV} (e:zeroOf E t=some z):∃x,(∀w,(zeroValue t).run P w= .ok x w)∧(∀C,VR C z x):=by
 unfold zeroOf at e;cases hi:E.tys.get t with
 |none=>rw[hi]at e;cases e
 |some i=>
  rw[hi]at e;simp only at e;cases hz:i.zero with
  |none=>rw[hz]at e;cases e
  |some x=>
   rw[hz]at e;exact⟨x,fun w=>by simp[zeroValue,BL he hi,hz],fun C=>Mr (G2 e).1⟩
theorem Ug {o:Oper} {c:Call} {sT:TypeId} {ts:List TypeId} {x y:Operand} (ho:o.op= .call c) (hc:c.callee= .builtin .append) (jt:c.argTypes.toList=sT::ts) (ZQ:c.args.toList=[x,y]):
 XN E P o (bp E sT ts.head? x y):=by
 unfold bp;split
 ·next e hu=>
  split
  ·next sz WJ z XA aW hz=>
   cases hb:(!(Nat.beq (W6 z.cells) sz)||Nat.beq sz 0|| !(ec E ts.head?))with
   |true=>exact A5
   |false=>
   simp only[cond_false];rw[Bool.or_eq_false_iff,Bool.or_eq_false_iff]at hb;have wa:∀u,ts.head?=some u→∃d,C7 E u=some d:=by
    intro u hu;have h2:=hb.2;rw[hu]at h2;simp only[ec,Bool.not_eq_false']at h2;cases hd:C7 E u with
    |none=>rw[hd]at h2;cases h2
    |some d=>exact⟨d,rfl⟩
   replace hb:=hb.1;have pQ:z.cells.length=sz:=by have:=Qb (by simpa using hb.1);simpa using this
   have jh:sz≠0:=by rintro rfl;simp at hb
   obtain⟨zv,mq,bN⟩:=HM he hz;have zU:zv.cells.size=sz:=by have:=(bN ⟨fun _=>⟨0,0,0⟩,fun _=>none,fun _=>False,fun _ _=>0,fun _ _=>False,fun _=>False⟩).cells.length;simpa[pQ]using this
   have cM:c.argTypes[0]?=some sT:=by rw[←Array.getElem?_toList,jt];rfl
   have we:c.argTypes.toList.tail.head?=ts.head?:=by rw[jt];rfl
   have hts2:∀u,c.argTypes[1]?=some u→∃d,C7 E u=some d:=by
    intro u h;rw[←Array.getElem?_toList,jt]at h;exact wa u (by rw[List.head?_eq_getElem?];exact h)
   have X0:∀ρ:Operand→Value,c.args.map ρ= #[ρ x,ρ y]:=by
    intro ρ;apply Array.ext';simp[ZQ]
   have aX:∀(ρ:Operand→Value) (w:World),(execOp ρ o).run P w=(do pure (Next.value (←Builtin.append_ c.argTypes o.type #[ρ x,ρ y])):Sem Next).run P w:=by
    intro ρ w;simp[execOp,ho,resolve,hc,invoke,builtin,X0]
   have slc:∀ {C:Cx} {S:St} {v:AV} {r:AV×St} {new:List AV} {n:Nat} {xv:Value},VR C v xv→CA S e sz WJ new n v=some r→∃a l k,xv= .slice a l k:=by
    intro C S v r new n xv hv h;cases hv with
    |Ca|VT|Cd|slice|Xj=>exact⟨_,_,_,rfl⟩
    |_=>simp[CA]at h
   cases hzb:XU E ts.head? with
   |true=>
    simp only[cond_true];intro C T a S w hg hT hS v S' h;obtain⟨av,cj,h⟩:=Qa.1 h;obtain⟨bv,pj,h⟩:=Qa.1 h;obtain⟨p,hp,h⟩:=Qa.1 h;obtain⟨n,hn,hp⟩:=Qa.1 hp;cases hle:Nat.ble n 1048576 with
    |false=>rw[hle]at hp;cases hp
    |true=>
    rw[hle]at hp;cases hp;have hn':=Qc hle;obtain⟨k,hk⟩:=GS (Ay hg hT pj) hn;have Yq:=Ay hg hT cj;obtain⟨sa,sl,sc,zV⟩:=slc Yq h;have hb4:n=0∨WJ≤1048576:=by
     by_cases h0:n=0
     ·exact .inl h0
     ·right;have ri:Nat.beq n 0=false:=by cases n with|zero=>exact absurd rfl h0|succ n=>rfl
      cases av with
      |Ca=>
       simp only[CA,ri,cond_false]at h;cases Y1:small n WJ with
       |false=>rw[Y1]at h;cases h
       |true=>exact(Ef Y1).2.2.2
      |slice b off len Yp cap=>
       simp only[CA,ri,cond_false]at h;cases Y1:small (len+n) WJ with
       |false=>rw[Y1]at h;simp at h
       |true=>exact(Ef Y1).2.2.2
      |Cd cs l s cl=>simp[CA,ri]at h
      |_=>simp[CA]at h
    have hR:n5 P e sz WJ n (Builtin.zeroCells zv.cells n).toList zv.cells (a.eval x) (Builtin.append_ c.argTypes o.type #[a.eval x,a.eval y]) w:=by
     rw[hk];refine⟨fun a' len cap w' hx YD Xp=>?_,fun a' len cap YO hx YM Y1 mn ho=>?_⟩
     ·rw[hx];exact JG he cM hu XA aW (by rw[we];exact hzb) hn' hb4 mq YD (fun _=>jh) Xp
     ·rw[hx];have:=Ji he (k:=k) (ty:=o.type) cM hu XA aW (by rw[we];exact hzb) hn' mq (YO:=YO.toList) (by rw[←hx];simpa using ho) YM Y1 jh mn;simpa using this
    have rj:=(bN C).cells.repeat n;obtain⟨C',q,w',C5,t,oY⟩:=KF (P:=P) hS jh Yq (xs:=(Builtin.zeroCells zv.cells n).toList) (by rw[Ho];exact rj) (((bN C).XH (Et hz)).repeat n)
     (by simp[Hn,zU]) zU hR h
    exact⟨C',_,w',by rw[aX];simp[C5],t,.value oY⟩
   |false=>
    simp only[cond_false];intro C T a S w hg hT hS v S' h;obtain⟨av,cj,h⟩:=Qa.1 h;obtain⟨bv,pj,h⟩:=Qa.1 h;obtain⟨p,hp,h⟩:=Qa.1 h;have Yq:=Ay hg hT cj;obtain⟨xs,hl,Wk,VX,pS,hfc⟩:=Oz (P:=P) hS (Ay hg hT pj) hp;have hR:n5 P e sz WJ p.2 xs zv.cells (a.eval x) (Builtin.append_ c.argTypes o.type #[a.eval x,a.eval y]) w:=by
     refine⟨fun a' len cap w' hx YD Xp=>?_,fun a' len cap YO hx YM Y1 mn ho=>?_⟩
     ·rw[hx];exact KY he cM hu XA (by rw[we];exact hzb) hl (hfc w U) YD hts2 Xp
     ·rw[hx];have:=JF he (ty:=o.type) cM hu XA aW (by rw[we];exact hzb) hl (hfc w.drew rfl) (YO:=YO.toList) (by rw[←hx];simpa using ho) mq YM Y1 hts2;simpa using this
    obtain⟨C',q,w',C5,t,oY⟩:=KF (P:=P) hS jh Yq Wk VX pS zU hR h;exact⟨C',_,w',by rw[aX];simp[C5],t,.value oY⟩
  ·exact A5
 ·exact A5
end
section
variable {E : Env} {P : Program}
theorem Hw {C:Cx} {S:St} {w:World} (hS:Wn C S w) {v:AV} {x:Value} (hv:VR C v x) {sz:Nat} {p:List AV×Nat} (e:WG S sz v=some p) {m:Nat} (hm:m≤p.2)
 {l:List AV} (hl:takeN (m*sz) p.1=some l):
 ∃xs,(Builtin.lenOf x).run P w= .ok p.2 w∧VS C l xs∧Cells l∧xs.length=m*sz∧(Builtin.firstCells sz m x).run P w= .ok xs.toArray w:=by
 obtain⟨post,hp,pf⟩:=DH hl;unfold WG at e;split at e
 ·next b=>
  cases hb:Nat.beq sz 1 with
  |false=>rw[hb]at e;cases e
  |true=>
   rw[hb]at e;cases e;have:sz=1:=Qb hb;subst this;cases hv with
   | @str _ l' s hs=>
   obtain⟨b1,b2,b3⟩:=F1 (C:=C) b;simp only at hp;rw[hp]at b1 b2;obtain⟨y,z,hyz,h1,h2⟩:=AY b1;refine⟨y,by simp[Builtin.lenOf,←hs],h1,b2.sub.1,h1.length.trans pf,?_⟩;have hy:y=(b.take m).map fun c=>Value.int .u8 c.toNat:=by
    have hyl:y.length=m:=by rw[h1.length,pf,Nat.mul_one]
    rw[List.map_take,hyz,←hyl];simp
   subst hs;rw[hy];simp[Builtin.firstCells];apply Array.ext';simp
 ·obtain⟨a,c,vs,rfl,Wk,VX,hlen,gy,mm⟩:=i' hS hv e;rw[hp]at Wk VX;obtain⟨y,z,rfl,h1,h2⟩:=AY Wk;refine⟨y,rfl,h1,VX.sub.1,h1.length.trans pf,?_⟩;cases a with
  |none=>
   have:=mm rfl;simp only[List.append_eq_nil_iff]at this;rw[this.1];rfl
  |some ad=>
   refine HO (fun j v hj=>gy ad U j v ?_) _ (h1.length.trans pf);have C6:j<y.length:=by
    rcases Nat.lt_or_ge j y.length with h|h
    ·exact h
    ·rw[List.getElem?_eq_none h]at hj;cases hj
   rw[List.getElem?_append_left C6];exact hj
theorem Tf {w w':World} {a:Addr} (h:(storeCells a []).run P w= .ok () w'):w'=w:=by
 simp[storeCells]at h;exact h.symm
theorem HJ {C:Cx} {S S':St} {w:World} (hS:Wn C S w) {b off len sz:Nat} {cap:Option Nat} {x:Value} (hv:VR C (.slice b off len sz cap) x) {vs:List AV} {xs:List Value} (Wk:VS C vs xs)
 (hc:Cells vs) (h0:len=0→vs=[]) (e:Z3 S b off vs=some S'):∃a c w',x= .slice (some a) len c∧(storeCells a xs).run P w= .ok () w'∧Cv C S w C S' w':=by
 obtain⟨w',C5,t,_⟩:=LW (P:=P) hS Wk hc e;cases hv with
 |slice hd YM Yl=>exact⟨_,_,w',rfl,C5,t⟩
 |Xj zA hd YM=>
  have:=h0 rfl;subst this;cases Wk;cases Tf C5;exact⟨_,_,_,rfl,by simp[storeCells],t⟩
variable (he : CN E P)
include he
omit he in
theorem Vl {o:Oper} {c:Call} {x y:Operand} (ho:o.op= .call c) (hc:c.callee= .builtin .copy) (ZQ:c.args.toList=[x,y]) (ρ:Operand→Value) (w:World):
 (execOp ρ o).run P w=(do pure (Next.value (←Builtin.copy_ c.argTypes o.type #[ρ x,ρ y])):Sem Next).run P w:=by
 have X0:c.args.map ρ= #[ρ x,ρ y]:=by apply Array.ext';simp[ZQ]
 simp[execOp,ho,resolve,hc,invoke,builtin,X0]
theorem wg {o:Oper} {c:Call} {t:TypeId} {ts:List TypeId} {x y:Operand} (ho:o.op= .call c) (hc:c.callee= .builtin .copy) (jt:c.argTypes.toList=t::ts) (ZQ:c.args.toList=[x,y]):
 XN E P o (lV E t x y):=by
 unfold lV;split
 ·next e hu=>
  split
  ·next sz XA=>
   have cM:c.argTypes[0]?=some t:=by rw[←Array.getElem?_toList,jt];rfl
   intro C T a S w hg hT hS v S' h;obtain⟨av,cj,h⟩:=Qa.1 h;obtain⟨bv,pj,h⟩:=Qa.1 h;obtain⟨p,hp,h⟩:=Qa.1 h;have Yq:=Ay hg hT cj;have dL:=Ay hg hT pj;have C5:∀(ba:Option Addr) (dl k n:Nat) (xs:List Value) (w':World),a.eval x= .slice ba dl k→(Builtin.lenOf (a.eval y)).run P w= .ok n w→(Builtin.firstCells sz (Nat.min n dl) (a.eval y)).run P w= .ok xs.toArray w→
    (match ba with|some ad=>(storeCells ad xs).run P w= .ok () w'|none=>w'=w)→(execOp a.eval o).run P w= .ok (.value (goInt (Nat.min n dl:Nat))) w':=by
    intro ba dl k n xs w' hx hn hf Xp;rw[Vl ho hc ZQ,hx];cases ba with
    |none=>subst Xp;simp[Builtin.copy_,cM,Ak he hu,AM he XA,hn,hf]
    |some ad=>simp only at Xp;simp[Builtin.copy_,cM,Ak he hu,AM he XA,hn,hf,Xp]
   cases av with
   |slice b off len Yp cap=>
    simp only[copyV]at h;cases hb:Nat.beq Yp sz with
    |false=>rw[hb]at h;cases h
    |true=>
    rw[hb]at h;have:=Qb hb;subst this;simp only[cond_true]at h;obtain⟨l,hl,h⟩:=Qa.1 h;obtain⟨s',hs',h⟩:=Qa.1 h;cases h;obtain⟨xs,hlen,Wk,VX,pS,hf⟩:=Hw (P:=P) hS dL hp (Nat.min_le_left _ _) hl;obtain⟨ad,cc,w',hx,Xp,t⟩:=HJ (P:=P) hS Yq Wk VX (by
     rintro rfl;have:=(DH hl).choose_spec.2;simpa using this) hs'
    exact⟨C,_,w',C5 _ _ _ _ xs w' hx hlen hf Xp,t,.value (.int _ _)⟩
   |Ca=>
    cases h;generalize hq:a.eval x=q at Yq;cases Yq with
    |Ca ba=>
    obtain⟨xs,hlen,Wk,VX,pS,hf⟩:=Hw (P:=P) hS dL hp (m:=Nat.min p.2 0) (Nat.min_le_left _ _) (l:=[]) (by rw[show Nat.min p.2 0=0 from Nat.min_zero _,Nat.zero_mul];rfl);have:xs=[]:=List.eq_nil_of_length_eq_zero (by simpa using pS);subst this;have:=C5 ba 0 0 _ [] w hq hlen hf (by cases ba<;>simp[storeCells]);exact⟨C,_,w,this,Cv.refl hS,.value (by simpa[goInt]using VR.int (C:=C) .i64 0)⟩
   |_=>simp[copyV]at h
  ·exact A5
 ·exact A5
omit he in
theorem FJ {o:Oper} {c:Call} {x:Operand} (ho:o.op= .call c) (hc:c.callee= .builtin .clear) (ZQ:c.args.toList=[x]) (ρ:Operand→Value) (w:World):
 (execOp ρ o).run P w=(do pure (Next.value (←Builtin.clear_ c.argTypes o.type #[ρ x])):Sem Next).run P w:=by
 have X0:c.args.map ρ= #[ρ x]:=by apply Array.ext';simp[ZQ]
 simp[execOp,ho,resolve,hc,invoke,builtin,X0]
omit he in
theorem F6 {o:Option St} {r:AV×St} (h:ai o=some r):∃s,o=some s∧r=(.tuple [],s):=by
 cases o with
 |none=>cases h
 |some s=>cases h;exact⟨s,rfl,rfl⟩
omit he in
theorem VR.unit {C:Cx}:VR C (.tuple []) (.tuple #[]):= .tuple (by simpa using VS.nil)
omit he in
theorem DI {w:World} {r:Nat} {x o:Obj} (h:w.heap[r]?=some x) (hc:∀c e f,x≠ .cells c e f):(setObj r o).run P w= .ok () (World.CP w r o):=by
 unfold setObj;simp only[Sem.run,h];cases x with
 |cells c e f=>exact absurd rfl (hc c e f)
 |_=>rfl
theorem rk {o:Oper} {c:Call} {t:TypeId} {ts:List TypeId} {x:Operand} (ho:o.op= .call c) (hc:c.callee= .builtin .clear) (jt:c.argTypes.toList=t::ts) (ZQ:c.args.toList=[x]):
 XN E P o (nq E t x):=by
 have cM:c.argTypes[0]?=some t:=by rw[←Array.getElem?_toList,jt];rfl
 unfold nq;split
 ·next e hu=>
  split
  ·next sz z XA hz=>
   cases hb:(Nat.beq (W6 z.cells) sz&& !z.isTuple)with
   |false=>exact A5
   |true=>
   simp only[cond_true];simp only[Qf,Bool.not_eq_true']at hb;obtain⟨zv,mq,bN⟩:=HM he hz;intro C T a S w hg hT hS v S' h;obtain⟨av,cj,h⟩:=Qa.1 h;obtain⟨s',Xm,hr⟩:=F6 h;cases hr;have Yq:=Ay hg hT cj;cases av with
   |slice b off len Yp cap=>
    simp only[np]at Xm;cases YN:Nat.beq Yp sz with
    |false=>rw[YN]at Xm;cases Xm
    |true=>
    rw[YN]at Xm;have:=Qb YN;subst this;rw[cond_true]at Xm;cases X9:Nat.beq len 0 with
    |true=>
     rw[X9]at Xm;cases Xm;have:=Qb X9;subst this;generalize hq:a.eval x=q at Yq;have:∃ba k,q= .slice ba 0 k:=by cases Yq<;>exact⟨_,_,rfl⟩
     obtain⟨ba,k,rfl⟩:=this;refine⟨C,_,w,?_,Cv.refl hS,.value VR.unit⟩;rw[FJ ho hc ZQ];cases ba<;>simp[Builtin.clear_,cM,Ak he hu,hq]
    |false=>
     rw[X9]at Xm;simp only[cond_false]at Xm;have rj:=(bN C).cells.repeat len;obtain⟨ad,cc,w',hx,Xp,tr⟩:=HJ (P:=P) hS Yq rj (((bN C).XH hb.2).repeat len) (by rintro rfl;cases X9) Xm;refine⟨C,_,w',?_,tr,.value VR.unit⟩;rw[FJ ho hc ZQ];rw[←Ho]at Xp;cases len with
     |zero=>cases X9
     |succ len=>simp[Builtin.clear_,cM,Ak he hu,hx,mq,Xp]
   |Ca=>
    cases Xm;generalize hq:a.eval x=q at Yq;cases Yq with
    |Ca ba=>
    refine⟨C,_,w,?_,Cv.refl hS,.value VR.unit⟩;rw[FJ ho hc ZQ];cases ba<;>simp[Builtin.clear_,cM,Ak he hu,hq]
   |_=>simp[np]at Xm
  ·exact A5
 ·next k e hu=>
  intro C T a S w hg hT hS v S' h;obtain⟨av,cj,h⟩:=Qa.1 h;obtain⟨s',Xm,hr⟩:=F6 h;cases hr;have Yq:=Ay hg hT cj;cases av with
  |map b=>
   simp only[iw]at Xm;unfold iu at Xm;split at Xm
   ·next es clock hb=>
    cases Xm;obtain⟨hd,x',oz,hr⟩:=hS.live b _ hb;generalize hq:a.eval x=q at Yq;cases Yq with
    |map mr=>
    cases hr with
    |map hp yF hk hn XK hgg hii=>
    rename_i arr l
    refine⟨C,_,_,?_,EJ hS hb (.map [] clock) (.map #[] clock) (.map (l:=[]) (by simp) .nil ⟨by simp,by simp⟩ (by simp) XK hgg hii),.value VR.unit⟩;rw[FJ ho hc ZQ];simp[Builtin.clear_,cM,Ak he hu,hq,AR oz (by simp),DI oz (by simp)]
   ·cases Xm
  |VU=>
   cases Xm;generalize hq:a.eval x=q at Yq;cases Yq with
   |VU=>
   refine⟨C,_,w,?_,Cv.refl hS,.value VR.unit⟩;rw[FJ ho hc ZQ];simp[Builtin.clear_,cM,Ak he hu,hq]
  |_=>simp[iw]at Xm
 ·exact A5
end
theorem Ga {C C':Cx} {a:AV} {x y:Value} (h:ak a=true) (hx:VR C a x) (hy:VR C' a y):x=y:=by
 cases a with
 |int k n=>cases hx;cases hy;rfl
 |bool b=>cases hx;cases hy;rfl
 |str l=>
  cases hx with
  | @str _ _ s hs=>
  cases hy with
  | @str _ _ s' hs'=>
  have:s=s':=ByteArray.ext (Array.ext' (hs.trans hs'.symm));rw[this]
 |_=>cases h
theorem IY {C C':Cx}:∀ {l:List AV} {xs ys:List Value},l.all ak=true→VS C l xs→VS C' l ys→xs=ys
 | [],_,_,_,.nil,.nil=>rfl
 |_::_,_,_,h,.cons h1 t1,.cons h2 t2=>by
  simp only[List.all_cons,Qf]at h;rw[Ga h.1 h1 h2,IY h.2 t1 t2]
theorem Uy {C C':Cx} {a:AV} {x y:Value} (h:eO a=true) (hx:VR C a x) (hy:VR C' a y):x=y:=by
 cases a with
 |agg cs=>
  cases hx with
  |agg h1 _=>
  cases hy with
  |agg h2 _=>rw[Array.ext' (IY h h1 h2)]
 |int k n=>exact Ga rfl hx hy
 |bool b=>exact Ga rfl hx hy
 |str l=>exact Ga rfl hx hy
 |_=>cases h
theorem rm (a b:ByteArray):(a==b)=(a.data==b.data):=rfl
theorem EB {C:Cx} {a:AV} {x:Value} (h:ak a=true) (hx:VR C a x) (n:Nat):Instr.sameBits n x x=true:=by
 cases a with
 |int k n=>cases hx;simp[Instr.sameBits]
 |bool b=>cases hx;simp[Instr.sameBits]
 |str l=>cases hx;simp[Instr.sameBits,rm]
 |_=>cases h
theorem Hq {C:Cx} (n:Nat):∀ {l:List AV} {xs:List Value},l.all ak=true→VS C l xs→((xs.zip xs).all fun(x,y)=>Instr.sameBits n x y)=true
 | [],_,_,.nil=>rfl
 |_::_,_,h,.cons h1 t1=>by
  simp only[List.all_cons,Qf]at h;simp only[List.zip_cons_cons,List.all_cons,Qf];exact⟨EB h.1 h1 n,Hq n h.2 t1⟩
theorem Pc {C:Cx} {a:AV} {x:Value} (h:eO a=true) (hx:VR C a x) (n:Nat):Instr.sameBits (n+1) x x=true:=by
 cases a with
 |agg cs=>
  cases hx with
  |agg h1 _=>
   simp only[Instr.sameBits,Qf,beq_self_eq_true,true_and];exact Hq n h h1
 |int k n=>exact EB rfl hx _
 |bool b=>exact EB rfl hx _
 |str l=>exact EB rfl hx _
 |_=>cases h
theorem rn {P:Program} {x:Value} {w:World} (h:Instr.sameBits 10000 x x=true):(Instr.keyThatStays x x).run P w= .ok x w:=by
 simp[Instr.keyThatStays,h]
theorem LK:∀ {l:List TypeDesc} {a b:List AV} {r:Bool},YT l a b=some r→(r=true↔a=b)
 | [],[],[],r,h=>by cases h;simp
 |d::l,a::x,b::y,r,h=>by
  simp only[YT]at h;obtain⟨q,hq,h⟩:=Qa.1 h;obtain⟨e1,_⟩:=UY hq;cases q with
  |true=>
   have:=LK (l:=l) h;have hab:=e1.1 rfl;rw[this];simp[hab]
  |false=>
   cases h;have Xl:a≠b:=fun e=>by have:=e1.2 e;cases this
   simp[Xl]
 | [],[],_::_,_,h=>by simp[YT]at h
 | [],_::_,_,_,h=>by simp[YT]at h
 |_::_,[],_,_,h=>by simp[YT]at h
 |_::_,_::_,[],_,h=>by simp[YT]at h
theorem Fx {kd:Kd} {a b:AV} {r:Bool} (h:ZE kd a b=some r):r=true↔a=b:=by
 cases kd with
 |one d=>exact(UY h).1
 |flat l=>
  cases a<;>cases b<;>simp only[ZE]at h<;>try (cases h;done)
  rw[LK h];simp
theorem GZ {kd:Kd} {k:AV}:∀ {es:List WV} {r:Option WV},ZG kd k es=some r→
 (∀e∈es,∃b,ZE kd k e.1=some b)∧(r=none→∀e∈es,ZE kd k e.1=some false)∧(∀e,r=some e→e∈es∧ZE kd k e.1=some true)
 | [],r,h=>by cases h;simp
 |e::es,r,h=>by
  simp only[ZG]at h;obtain⟨b,hb,h⟩:=Qa.1 h;obtain⟨q,hq,h⟩:=Qa.1 h;obtain⟨h1,h2,h3⟩:=GZ hq;refine⟨?_,?_,?_⟩
  ·intro e' Y0;rcases Qk.1 Y0 with rfl|Y0
   ·exact⟨b,hb⟩
   ·exact h1 e' Y0
  ·intro hr;cases b with
   |true=>simp only[cond_true]at h;rw[hr]at h;cases h
   |false=>
    simp only[cond_false]at h;cases h;intro e' Y0;rcases Qk.1 Y0 with rfl|Y0
    ·exact hb
    ·exact h2 hr e' Y0
  ·intro e' hr;cases b with
   |true=>simp only[cond_true]at h;rw[hr]at h;cases h;exact⟨Qh ..,hb⟩
   |false=>
    simp only[cond_false]at h;cases h;obtain⟨h4,h5⟩:=h3 e' hr;exact⟨Qg _ h4,h5⟩
theorem BE {α β:Type} {f:α→β}:∀ {l:List α},(l.map f).Nodup→∀ {x y:α},x∈l→y∈l→f x=f y→x=y
 |a::l,h,x,y,hx,hy,e=>by
  simp only[List.map_cons,List.nodup_cons]at h;rcases Qk.1 hx with oz|oz
  ·rcases Qk.1 hy with mh|mh
   ·rw[oz,mh]
   ·exact absurd (List.mem_map.2 ⟨y,mh,by rw[←e,oz]⟩) h.1
  ·rcases Qk.1 hy with mh|mh
   ·exact absurd (List.mem_map.2 ⟨x,oz,by rw[e,mh]⟩) h.1
   ·exact BE h.2 oz mh e
theorem G1 {α β:Type} {f:α→β}:∀ {l:List α},(l.map f).Nodup→l.Nodup
 | [],_=>List.nodup_nil
 |a::l,h=>by
  simp only[List.map_cons,List.nodup_cons]at h;exact List.nodup_cons.2 ⟨fun hx=>h.1 (List.mem_map.2 ⟨a,hx,rfl⟩),G1 h.2⟩
theorem Wq.born {C:Cx} {b:Nat} {es:List WV} {l:List MapEntry} (h:Wq C b es l):l.map (·.born)=(es.map (·.2.2)).map (C.gh b):=by
 induction h with
 |nil=>rfl
 |cons _ _ _ hn _ ih=>simp[hn,ih]
theorem Wq.mem {C:Cx} {b:Nat} {es:List WV} {l:List MapEntry} (h:Wq C b es l) {e:WV} (he:e∈es):
 ∃m∈l,VR C e.1 m.key∧VR C e.2.1 m.val∧C.G b e.2.2∧m.born=C.gh b e.2.2:=by
 induction h with
 |nil=>cases he
 |cons hk hv hg hn _ ih=>
  rcases Qk.1 he with rfl|he
  ·exact⟨_,Qh ..,hk,hv,hg,hn⟩
  ·obtain⟨m,hm,h⟩:=ih he;exact⟨m,Qg _ hm,h⟩
theorem Wq.pk {C:Cx} {b:Nat} {es:List WV} {l:List MapEntry} (h:Wq C b es l) {m:MapEntry} (hm:m∈l):
 ∃e∈es,VR C e.1 m.key∧VR C e.2.1 m.val∧C.G b e.2.2∧m.born=C.gh b e.2.2:=by
 induction h with
 |nil=>cases hm
 |cons hk hv hg hn _ ih=>
  rcases Qk.1 hm with rfl|hm
  ·exact⟨_,Qh ..,hk,hv,hg,hn⟩
  ·obtain⟨e,he,h⟩:=ih hm;exact⟨e,Qg _ he,h⟩
def ay (n:Nat):List MapEntry→Nat→Option (Nat×Value)
 | [],_=>none
 |e::es,i=>if e.born=n then some (i,e.val)else ay n es (i+1)
theorem LJ {n:Nat}:∀ {l:List MapEntry} {i:Nat},(∀m∈l,m.born≠n)→ay n l i=none
 | [],_,_=>rfl
 |a::l,i,h=>by
  simp only[ay,if_neg (h a (Qh ..))];exact LJ fun m hm=>h m (Qg _ hm)
theorem LI {n:Nat}:∀ {l:List MapEntry} {i:Nat},(∃m∈l,m.born=n)→∃j m,l[j]?=some m∧m.born=n∧ay n l i=some (i+j,m.val)
 | [],_,h=>by obtain⟨_,h,_⟩:=h;cases h
 |a::l,i,h=>by
  by_cases ha:a.born=n
  ·exact⟨0,a,rfl,ha,by simp[ay,ha]⟩
  ·obtain⟨m,hm,hn⟩:=h;have jf:m∈l:=(Qk.1 hm).resolve_left (fun e=>ha (e▸hn));obtain⟨j,m',h1,h2,h3⟩:=LI (i:=i+1) ⟨m,jf,hn⟩;refine⟨j+1,m',by simpa using h1,h2,?_⟩;simp only[ay,if_neg ha,h3]
   congr 2;omega
section
variable {E : Env} {P : Program}
theorem Lv {α:Type} (a:α):∀n,(rep a n).length=n
 |0=>rfl
 |n+1=>by simp[rep,Lv a n]
theorem F4 {α:Type} {w:World} {f:α→PUnit→Sem (ForInStep PUnit)}:∀ {l:List α},(∀x∈l,(f x ⟨⟩).run P w= .ok (.yield ⟨⟩) w)→(forIn l PUnit.unit f).run P w= .ok ⟨⟩ w
 | [],_=>by simp
 |a::l,h=>by
  rw[List.forIn_cons];simp only[Sem.run_bind,h a (Qh ..),Result.andThen_ok];exact F4 fun x hx=>h x (Qg _ hx)
variable (he : CN E P)
include he
theorem Fe {t:TypeId} {d:TypeDesc} (hu:C7 E t=some d) (hs:Ze d=true) (empty:Bool) (n:Nat) (x:Value) (w:World):(Instr.checkKey empty (n+1) t x).run P w= .ok () w:=by
 unfold Instr.checkKey;simp only[Sem.run_bind,Ak he hu,Result.andThen_ok];cases d<;>first|rfl|cases hs
theorem PO {t:TypeId} {kd:Kd} (hk:Y9 E t=some kd) {C:Cx} {a:AV} {x:Value} (ha:VR C a x) (WX:bU kd a=true) (empty:Bool) (n:Nat) (w:World):
 (Instr.checkKey empty (n+2) t x).run P w= .ok () w:=by
 rcases FD hk with⟨fs,l,hu,hl,X3,rfl⟩|⟨m,e,d,hu,hd,hs,rfl⟩|⟨d,hu,hs,rfl⟩
 ·cases ha<;>simp only[bU]at WX<;>try (cases WX;done)
  rename_i cs xs VX Wk
  unfold Instr.checkKey;simp only[Sem.run_bind,Ak he hu,Result.andThen_ok];rw[←Array.forIn_toList,F4]
  ·rfl
  intro f hf;obtain⟨j,hj⟩:=List.getElem?_of_mem hf;obtain⟨hlen,Y2⟩:=GY hl;obtain⟨d,po,hoff,hnm,qM⟩:=Y2 j f hj;obtain⟨h1,h2⟩:=BD qM;have C6:j<cs.length:=by
   have:=(FV WX).2;have hjl:j<fs.toList.length:=by
    rcases Nat.lt_or_ge j fs.toList.length with h|h
    ·exact h
    ·rw[List.getElem?_eq_none h]at hj;cases hj
   omega
  obtain⟨y,hy,_⟩:=Eg (P:=P) he qM Wk (Qi C6) w;have hoff':f.offset=j:=by omega
  simp only[ne_eq,hnm,not_false_eq_true,if_true,Sem.run_bind,hoff',hy,Result.andThen_ok,Fe he h1 h2,Sem.run_pure]
 ·cases ha<;>simp only[bU]at WX<;>try (cases WX;done)
  rename_i cs xs VX Wk
  unfold Instr.checkKey;simp only[Sem.run_bind,Ak he hu,Result.andThen_ok];rw[Std.Legacy.Range.forIn_eq_forIn_range',F4]
  ·rfl
  intro j hj;have hjm:j<m:=by simpa[Std.Legacy.Range.size]using hj
  obtain⟨h1,h2⟩:=BD hd;have C6:j<cs.length:=by
   have:=(FV WX).2;rw[Lv]at this;omega
  obtain⟨y,hy,_⟩:=Eg (P:=P) he hd Wk (Qi C6) w;simp only[Sem.run_bind,AM he hs,Nat.mul_one,hy,Result.andThen_ok,Fe he h1 h2,Sem.run_pure]
 ·exact Fe he hu hs empty (n+1) x w
theorem Io {t:TypeId} {kd:Kd} (hk:Y9 E t=some kd) {C:Cx} {k:AV} {kx:Value} (ha:VR C k kx) {n:Nat} {w:World}:∀ {L:List MapEntry} {i:Nat},
 (∀m∈L,∃a b,VR C a m.key∧ZE kd k a=some b∧(b=true↔m.born=n))→(Instr.findAsking t kx L i).run P w= .ok (ay n L i) w
 | [],_,_=>rfl
 |m::L,i,h=>by
  obtain⟨a,b,h1,h2,h3⟩:=h m (Qh ..);have hb:(Op.equal t kx m.key).run P w= .ok b w:=UX he hk ha h1 h2 9998 w;unfold Instr.findAsking;simp only[Sem.run_bind,hb,Result.andThen_ok];cases b with
  |true=>simp[ay,h3.1 rfl]
  |false=>
   have:m.born≠n:=fun e=>by have:=h3.2 e;cases this
   simp only[Bool.false_eq_true,if_false,ay,this];exact Io hk ha fun m hm=>h m (Qg _ hm)
omit he in
theorem RN {d:TypeDesc} {C C':Cx} {a b:AV} {x y:Value} (ha:VR C a x) (hb:VR C' b y) {r:Bool} (h:oV d a b=some r):Instr.sameNow d x y=some r:=by
 unfold oV at h;split at h
 ·cases ha;cases hb;cases h;rename_i p q
  cases p<;>cases q<;>rfl
 ·cases ha;cases hb;split at h
  ·next hk=>cases h;subst hk;simp only[Instr.sameNow,if_true,Option.some.injEq];rw[Bool.eq_iff_iff];simp
  ·cases h
 ·cases h;cases ha with
  |str ha=>
  cases hb with
  |str hb=>
  simp only[Instr.sameNow,rm,Bu,←ha,←hb,Option.some.injEq];rw[Bool.eq_iff_iff];simp
 ·cases h
omit he in
theorem Kp {d:TypeDesc} {C:Cx} {k:AV} {kx:Value} (ha:VR C k kx) {n:Nat}:∀ {L:List MapEntry} {i:Nat},
 (∀m∈L,∃a b,VR C a m.key∧oV d k a=some b∧(b=true↔m.born=n))→Instr.findNow d kx L i=some (ay n L i)
 | [],_,_=>rfl
 |m::L,i,h=>by
  obtain⟨a,b,h1,h2,h3⟩:=h m (Qh ..);unfold Instr.findNow;rw[RN ha h1 h2];cases b with
  |true=>simp[ay,h3.1 rfl]
  |false=>
   have:m.born≠n:=fun e=>by have:=h3.2 e;cases this
   simp only[ay,this,if_false];exact Kp ha fun m hm=>h m (Qg _ hm)
omit he in
theorem Oi {d:TypeDesc} (hd:Ze d=false) {kx:Value} {L:List MapEntry} {i:Nat} {r} (h:Instr.findNow d kx L i=some r):L=[]∧r=none:=by
 cases L with
 |nil=>cases h;exact⟨rfl,rfl⟩
 |cons m L=>
  exfalso;unfold Instr.findNow at h;have:Instr.sameNow d kx m.key=none:=by
   unfold Instr.sameNow;cases d<;>first|rfl|cases hd
  rw[this]at h;cases h
theorem ID {t:TypeId} {kd:Kd} (hk:Y9 E t=some kd) {C:Cx} {k:AV} {kx:Value} (ha:VR C k kx) {n:Nat} {w:World} {L:List MapEntry}
 (h:∀m∈L,∃a b,VR C a m.key∧ZE kd k a=some b∧(b=true↔m.born=n)):(Instr.findKey t kx L).run P w= .ok (ay n L 0) w:=by
 have flat:∀ {d:TypeDesc},C7 E t=some d→Ze d=false→(Instr.findKey t kx L).run P w= .ok (ay n L 0) w:=by
  intro d hu hs;simp only[Instr.findKey,Sem.run_bind,Ak he hu,Result.andThen_ok];split
  ·next r hr=>
   obtain⟨rfl,rfl⟩:=Oi hs hr;rfl
  ·exact Io he hk ha h
 rcases FD hk with⟨fs,l,hu,hl,X3,rfl⟩|⟨m,e,d,hu,hd,hs,rfl⟩|⟨d,hu,hs,rfl⟩
 ·exact flat hu U
 ·exact flat hu U
 ·simp only[Instr.findKey,Sem.run_bind,Ak he hu,Result.andThen_ok];rw[Kp ha (d:=d) h];rfl
theorem HY {t:TypeId} {kd:Kd} (hk:Y9 E t=some kd) {C:Cx} {k:AV} {kx:Value} (ha:VR C k kx) {w:World} {b clock:Nat} {es:List WV} {arr:Array MapEntry} {l:List MapEntry}
 (hm:fp C b es clock w arr l) {r:Option WV} (h:ZG kd k es=some r):
 (r=none→(∀w',(Instr.findKey t kx arr.toList).run P w'= .ok none w')∧∀e∈es,k≠e.1)∧
 (∀e,r=some e→e∈es∧k=e.1∧C.G b e.2.2∧∃i m,arr[i]?=some m∧m.key=kx∧VR C e.2.1 m.val∧m.born=C.gh b e.2.2∧∀w',(Instr.findKey t kx arr.toList).run P w'= .ok (some (i,m.val)) w'):=by
 obtain⟨h1,h2,h3⟩:=GZ h;refine⟨fun hr=>?_,fun e hr=>?_⟩
 ·have XG:=h2 hr;refine⟨fun w'=>?_,fun e Y0 pT=>?_⟩
  ·have C6:=hm.b8.kW hm.vl;have hb:∀m∈arr.toList,m.born≠clock:=fun m jf=>Nat.ne_of_lt (C6 m (hm.perm.mem_iff.2 jf));rw[ID he hk ha (n:=clock) (fun m jf=>?_),LJ hb];obtain⟨e,Y0,h4,h5,h6,h7⟩:=hm.b8.pk (hm.perm.mem_iff.2 jf);exact⟨e.1,false,h4,XG e Y0,by simp[hb m jf]⟩
  ·have:=(Fx (XG e Y0)).2 pT;cases this
 ·obtain⟨XY,iP⟩:=h3 e hr;have pT:=(Fx iP).1 rfl;obtain⟨m,jr,h4,h5,h6,h7⟩:=hm.b8.mem XY;have key:∀m'∈arr.toList,∃a q,VR C a m'.key∧ZE kd k a=some q∧(q=true↔m'.born=C.gh b e.2.2):=by
   intro m' jf;obtain⟨e',Y0,g4,g5,g6,g7⟩:=hm.b8.pk (hm.perm.mem_iff.2 jf);obtain⟨q,hq⟩:=h1 e' Y0;refine⟨e'.1,q,g4,hq,?_⟩;have Xp:(es.map (·.2.2)).Nodup:=by
    have:=hm.nodup;rw[hm.b8.born]at this;exact G1 this
   rw[Fx hq,pT,g7];constructor
   ·intro zT;have:=BE hm.keys.2 XY Y0 zT;rw[this]
   ·intro hgg;have:=hm.inj _ _ g6 h6 hgg;rw[BE Xp XY Y0 this.symm]
  obtain⟨i,m',g1,g2,g3⟩:=LI (n:=C.gh b e.2.2) (l:=arr.toList) (i:=0) ⟨m,hm.perm.mem_iff.1 jr,h7⟩;have mU:m'=m:=by
   have:m'∈l:=hm.perm.mem_iff.2 (List.mem_of_getElem? g1);exact BE hm.nodup this jr (g2.trans h7.symm)
  subst mU;have WX:eO e.1=true:=hm.keys.1 e XY;refine⟨XY,pT,h6,i,m',by simpa using g1,Uy WX h4 (by rw[←pT];exact ha),h5,h7,fun w'=>?_⟩;rw[ID he hk ha key,g3];simp
end
theorem U7 {α β:Type} {f:α→β}:∀ {l:List α},(l.map f).Nodup→∀ {i j:Nat} {a b:α},l[i]?=some a→l[j]?=some b→f a=f b→i=j
 | [],_,i,_,_,_,h,_,_=>by simp at h
 |c::l,hn,0,0,_,_,_,_,_=>rfl
 |c::l,hn,0,j+1,a,b,h1,h2,e=>by
  simp only[List.map_cons,List.nodup_cons]at hn;simp at h1 h2;subst h1;exact absurd (List.mem_map.2 ⟨b,List.mem_of_getElem? h2,e.symm⟩) hn.1
 |c::l,hn,i+1,0,a,b,h1,h2,e=>by
  simp only[List.map_cons,List.nodup_cons]at hn;simp at h1 h2;subst h2;exact absurd (List.mem_map.2 ⟨a,List.mem_of_getElem? h1,e⟩) hn.1
 |c::l,hn,i+1,j+1,a,b,h1,h2,e=>by
  simp only[List.map_cons,List.nodup_cons]at hn;exact congrArg (· +1) (U7 (f:=f) (a:=a) (b:=b) hn.2 (by simpa using h1) (by simpa using h2) e)
def X7 (n:Nat) (f:MapEntry→MapEntry) (e:MapEntry):MapEntry:=if e.born=n then f e else e
theorem JX {arr:Array MapEntry} (hn:(arr.toList.map (·.born)).Nodup) {i:Nat} {m:MapEntry} (hi:arr[i]?=some m) (f:MapEntry→MapEntry):
 (arr.modify i f).toList=arr.toList.map (X7 m.born f):=by
 apply List.ext_getElem?;intro j;rw[List.getElem?_map];simp only[Array.getElem?_toList,Array.getElem?_modify];split
 ·next e=>subst e;rw[hi];simp[X7]
 ·next e=>
  cases hj:arr[j]? with
  |none=>rfl
  |some m'=>
   have:m'.born≠m.born:=fun hb=>e (U7 (f:=MapEntry.born) hn (a:=m) (b:=m') (by simpa using hi) (by simpa using hj) hb.symm);simp[X7,this]
theorem S8 {arr:Array MapEntry} (hn:(arr.toList.map (·.born)).Nodup) {i:Nat} {m:MapEntry} (hi:arr[i]?=some m):
 (arr.eraseIdxIfInBounds i).toList=arr.toList.filter (fun e=>e.born !=m.born):=by
 have key:∀(l:List MapEntry) (i:Nat),(l.map (·.born)).Nodup→l[i]?=some m→l.eraseIdx i=l.filter (fun e=>e.born !=m.born):=by
  intro l;induction l with
  |nil=>intro i _ h;simp at h
  |cons a l ih=>
   intro i hn hi;simp only[List.map_cons,List.nodup_cons]at hn;cases i with
   |zero=>
    simp at hi;subst hi;simp only[List.eraseIdx_zero,List.tail_cons,List.filter_cons,bne_self_eq_false,Bool.false_eq_true,if_false];symm;rw[List.filter_eq_self];intro e he;simp only[bne_iff_ne,ne_eq];intro hb;exact hn.1 (List.mem_map.2 ⟨e,he,hb⟩)
   |succ i=>
    simp only[List.eraseIdx_cons_succ];have yG:l[i]?=some m:=by simpa using hi
    have:a.born≠m.born:=fun hb=>hn.1 (List.mem_map.2 ⟨m,List.mem_of_getElem? yG,hb.symm⟩);simp[this,ih i hn.2 yG]
 have C6:i<arr.size:=by
  rcases Nat.lt_or_ge i arr.size with h|h
  ·exact h
  ·rw[Array.getElem?_eq_none h]at hi;cases hi
 rw[Array.eraseIdxIfInBounds,dif_pos C6,Array.toList_eraseIdx];exact key _ _ hn (by simpa using hi)
theorem NW {kd:Kd} {k:AV} {e:WV}:isEq kd k e=true↔ZE kd k e.1=some true:=by
 unfold isEq;cases h:ZE kd k e.1 with
 |none=>simp
 |some b=>simp
theorem Qv {C:Cx} {b:Nat} {kd:Kd} {k v:AV} {kx vx:Value} (hk:VR C k kx) (hv:VR C v vx) {n:Nat} (hi:∀j,C.G b j→C.gh b j=C.gh b n→j=n):
 ∀ {es:List WV} {l:List MapEntry},Wq C b es l→(es.map (·.2.2)).Nodup→(∀e∈es,(isEq kd k e=true↔e.2.2=n))→
  Wq C b (kA kd k v es) (l.map (X7 (C.gh b n) fun e=> {e with key:=kx,val:=vx}))
 |_,_,.nil,_,_=> .nil
 |e::es,m::l,.cons h1 h2 h3 h4 t,hn,h=>by
  simp only[List.map_cons,List.nodup_cons]at hn;simp only[kA,List.map_cons];have hh:=h e (Qh ..);cases hq:isEq kd k e with
  |true=>
   have fK:=hh.1 hq;simp only[cond_true];have hm:m.born=C.gh b n:=by rw[h4];exact congrArg _ fK
   have ZR:l.map (X7 (C.gh b n) fun e=> {e with key:=kx,val:=vx})=l:=by
    rw[List.map_congr_left (g:=id),List.map_id];intro m' jf;obtain⟨e',Y0,_,_,g3,g4⟩:=t.pk jf;have:m'.born≠C.gh b n:=by
     rw[g4];intro hb;have:=hi _ g3 hb;exact hn.1 (List.mem_map.2 ⟨e',Y0,this.trans fK.symm⟩)
    simp[X7,this]
   rw[ZR];simp only[X7,hm,if_true];exact .cons hk hv h3 (hm.symm.trans h4) t
  |false=>
   have fK:e.2.2≠n:=fun he=>by rw[hh.2 he]at hq;cases hq
   simp only[cond_false];have hm:m.born≠C.gh b n:=by
    rw[h4];intro hb;exact fK (hi _ h3 hb)
   simp only[X7,hm,if_false];exact .cons h1 h2 h3 h4 (Qv hk hv hi t hn.2 fun e' Y0=>h e' (Qg _ Y0))
theorem Rh {C:Cx} {b:Nat} {kd:Kd} {k:AV} {n:Nat} (hi:∀j,C.G b j→C.gh b j=C.gh b n→j=n):
 ∀ {es:List WV} {l:List MapEntry},Wq C b es l→(es.map (·.2.2)).Nodup→(∀e∈es,(isEq kd k e=true↔e.2.2=n))→
  Wq C b (nn kd k es) (l.filter (fun e=>e.born !=C.gh b n))
 |_,_,.nil,_,_=> .nil
 |e::es,m::l,.cons h1 h2 h3 h4 t,hn,h=>by
  simp only[List.map_cons,List.nodup_cons]at hn;simp only[nn];have hh:=h e (Qh ..);cases hq:isEq kd k e with
  |true=>
   have fK:=hh.1 hq;simp only[cond_true];have hm:m.born=C.gh b n:=by rw[h4];exact congrArg _ fK
   have ZR:l.filter (fun e=>e.born !=C.gh b n)=l:=by
    rw[List.filter_eq_self];intro m' jf;obtain⟨e',Y0,_,_,g3,g4⟩:=t.pk jf;simp only[bne_iff_ne,ne_eq,g4];intro hb;exact hn.1 (List.mem_map.2 ⟨e',Y0,(hi _ g3 hb).trans fK.symm⟩)
   simp only[List.filter_cons,hm,bne_self_eq_false,Bool.false_eq_true,if_false];rw[ZR];exact t
  |false=>
   have fK:e.2.2≠n:=fun he=>by rw[hh.2 he]at hq;cases hq
   simp only[cond_false];have hm:(m.born !=C.gh b n)=true:=by
    simp only[bne_iff_ne,ne_eq];rw[h4];intro hb;exact fK (hi _ h3 hb)
   simp only[List.filter_cons,hm,if_true];exact .cons h1 h2 h3 h4 (Rh hi t hn.2 fun e' Y0=>h e' (Qg _ Y0))
theorem Nc {kd:Kd} {k v:AV}:∀ {es:List WV},(∀e∈es,(isEq kd k e=true→k=e.1))→(kA kd k v es).map (·.1)=es.map (·.1)
 | [],_=>rfl
 |e::es,h=>by
  simp only[kA];cases hq:isEq kd k e with
  |true=>simp[h e (Qh ..) hq]
  |false=>simp[Nc fun e' Y0=>h e' (Qg _ Y0)]
theorem iQ {kd:Kd} {k:AV}:∀ {es:List WV},(nn kd k es).Sublist es
 | []=>List.Sublist.refl _
 |e::es=>by
  simp only[nn];cases isEq kd k e with
  |true=>exact List.sublist_cons_self ..
  |false=>exact(iQ (es:=es)).cons_cons _
theorem PR (n:Nat) (kx vx:Value) (m:MapEntry):(X7 n (fun e=> {e with key:=kx,val:=vx}) m).born=m.born:=by
 unfold X7;split<;>rfl
theorem Jn {es:List WV}:vF es↔(∀k∈es.map (·.1),eO k=true)∧(es.map (·.1)).Nodup:=by
 unfold vF;constructor
 ·rintro⟨h1,h2⟩;refine⟨fun k hk=>?_,h2⟩;obtain⟨e,he,rfl⟩:=List.mem_map.1 hk;exact h1 e he
 ·rintro⟨h1,h2⟩;exact⟨fun e he=>h1 _ (List.mem_map.2 ⟨e,he,rfl⟩),h2⟩
theorem fp.YE {C:Cx} {b clock:Nat} {es:List WV} {w:World} {arr:Array MapEntry} {l:List MapEntry} (h:fp C b es clock w arr l):(es.map (·.2.2)).Nodup:=by
 have:=h.nodup;rw[h.b8.born]at this;exact G1 this
theorem fp.fZ {C:Cx} {b clock:Nat} {es:List WV} {w:World} {arr:Array MapEntry} {l:List MapEntry} (h:fp C b es clock w arr l):(arr.toList.map (·.born)).Nodup:=
 ((h.perm.map _).nodup_iff).1 h.nodup
theorem fp.upd {C:Cx} {b clock:Nat} {es:List WV} {w:World} {arr:Array MapEntry} {l:List MapEntry} (h:fp C b es clock w arr l) {kd:Kd} {k v:AV} {kx vx:Value} (hk:VR C k kx) (hv:VR C v vx)
 {e:WV} (hr:ZG kd k es=some (some e)) {i:Nat} {m:MapEntry} (hi:arr[i]?=some m) (hb:m.born=C.gh b e.2.2):
 OR C b (.map (kA kd k v es) clock) (.map (arr.modify i fun e=> {e with key:=kx,val:=vx}) clock):=by
 obtain⟨h1,h2,h3⟩:=GZ hr;obtain⟨XY,iP⟩:=h3 e rfl;have pT:=(Fx iP).1 rfl;obtain⟨_,_,_,_,aG,_⟩:=h.b8.mem XY;have heq:∀e'∈es,(isEq kd k e'=true↔e'.2.2=e.2.2):=by
  intro e' Y0;rw[NW];constructor
  ·intro hq;have:=(Fx hq).1 rfl;rw[BE h.keys.2 Y0 XY (this.symm.trans pT)]
  ·intro hq;rw[BE h.YE Y0 XY hq];exact iP
 have hkeys:(kA kd k v es).map (·.1)=es.map (·.1):=Nc fun e' _ hq=>(Fx (NW.1 hq)).1 rfl;refine .map (l:=l.map (X7 (C.gh b e.2.2) fun e=> {e with key:=kx,val:=vx})) ?_ (Qv hk hv (fun j hj hg=>h.inj _ _ hj aG hg) h.b8 h.YE heq)
  (by rw[Jn,hkeys,←Jn];exact h.keys) ?_ h.vl h.stamps h.inj
 ·rw[JX h.fZ hi,hb];exact h.perm.map _
 ·rw[List.map_map];have:((·.born)∘X7 (C.gh b e.2.2) fun e=> {e with key:=kx,val:=vx}:MapEntry→Nat)=(·.born):=by
   funext m;exact PR _ _ _ _
  rw[this];exact h.nodup
theorem fp.del {C:Cx} {b clock:Nat} {es:List WV} {w:World} {arr:Array MapEntry} {l:List MapEntry} (h:fp C b es clock w arr l) {kd:Kd} {k:AV}
 {e:WV} (hr:ZG kd k es=some (some e)) {i:Nat} {m:MapEntry} (hi:arr[i]?=some m) (hb:m.born=C.gh b e.2.2):
 OR C b (.map (nn kd k es) clock) (.map (arr.eraseIdxIfInBounds i) clock):=by
 obtain⟨h1,h2,h3⟩:=GZ hr;obtain⟨XY,iP⟩:=h3 e rfl;have pT:=(Fx iP).1 rfl;obtain⟨_,_,_,_,aG,_⟩:=h.b8.mem XY;have heq:∀e'∈es,(isEq kd k e'=true↔e'.2.2=e.2.2):=by
  intro e' Y0;rw[NW];constructor
  ·intro hq;have:=(Fx hq).1 rfl;rw[BE h.keys.2 Y0 XY (this.symm.trans pT)]
  ·intro hq;rw[BE h.YE Y0 XY hq];exact iP
 refine .map (l:=l.filter (fun e'=>e'.born !=C.gh b e.2.2)) ?_ (Rh (fun j hj hg=>h.inj _ _ hj aG hg) h.b8 h.YE heq) ?_ ?_ h.vl h.stamps h.inj
 ·rw[S8 h.fZ hi,hb];exact h.perm.filter _
 ·exact⟨fun e' Y0=>h.keys.1 e' (iQ.subset Y0),(iQ.map _).nodup h.keys.2⟩
 ·exact((List.filter_sublist).map _).nodup h.nodup
def Cx.WY (C:Cx) (b n:Nat):Cx:= {C with gh:=fun c k=>if c=b∧k=n then n else C.gh c k,G:=fun c k=>C.G c k∨(c=b∧k=n)}
theorem Ext.WY {C:Cx} {b n:Nat} (h:¬C.G b n):Ext C (C.WY b n):=
 ⟨fun _ h=>h,fun _ _=>rfl,fun _ _ h=>h,fun _ _ h=> .inl h,fun c k hk=>by
  have:¬(c=b∧k=n):=by rintro⟨rfl,rfl⟩;exact h hk
  simp[Cx.WY,this],fun _ h=>h⟩
theorem fp.add {C:Cx} {b clock:Nat} {es:List WV} {w:World} {arr:Array MapEntry} {l:List MapEntry} (h:fp C b es clock w arr l) {k v:AV} {kx vx:Value} (hk:VR C k kx) (hv:VR C v vx)
 (WX:eO k=true) (XG:∀e∈es,k≠e.1):
 ¬C.G b clock∧OR (C.WY b clock) b (.map (es++[(k,v,clock)]) (clock+1)) (.map (arr.push {key:=kx,val:=vx,born:=clock}) (clock+1)):=by
 have jS:¬C.G b clock:=fun hg=>Nat.lt_irrefl _ (h.stamps _ hg);have e:=Ext.WY jS;have hgh:(C.WY b clock).gh b clock=clock:=by simp[Cx.WY]
 have ju:∀ {es:List WV} {l:List MapEntry},Wq C b es l→Wq (C.WY b clock) b (es++[(k,v,clock)]) (l++[{key:=kx,val:=vx,born:=clock}]):=by
  intro es l hh;induction hh with
  |nil=>exact .cons (hk.mono e) (hv.mono e) (.inr ⟨rfl,rfl⟩) hgh.symm .nil
  |cons h1 h2 h3 h4 _ ih=>exact .cons (h1.mono e) (h2.mono e) (.inl h3) (h4.trans (e.gh _ _ h3).symm) ih
 have C6:=h.b8.kW h.vl;refine⟨jS,.map (l:=l++[{key:=kx,val:=vx,born:=clock}]) ?_ (ju h.b8) ⟨?_,?_⟩ ?_ ?_ ?_ ?_⟩
 ·rw[Array.toList_push];exact h.perm.append_right _
 ·intro e' Y0;rcases List.mem_append.1 Y0 with Y0|Y0
  ·exact h.keys.1 e' Y0
  ·simp only[Qp]at Y0;subst Y0;exact WX
 ·rw[List.map_append,List.nodup_append];refine⟨h.keys.2,by simp,?_⟩;intro a ha b' YN hab;simp only[List.map_cons,List.map_nil,Qp]at YN;obtain⟨e',Y0,rfl⟩:=List.mem_map.1 ha;exact XG e' Y0 (by rw[hab,YN])
 ·rw[List.map_append,List.nodup_append];refine⟨h.nodup,by simp,?_⟩;intro a ha b' YN hab;simp only[List.map_cons,List.map_nil,Qp]at YN;obtain⟨m,hm,rfl⟩:=List.mem_map.1 ha;have:=C6 m hm;omega
 ·rintro n (hg|⟨_,rfl⟩)
  ·rw[e.gh _ _ hg];exact Nat.lt_succ_of_lt (h.vl n hg)
  ·rw[hgh];exact Nat.lt_succ_self _
 ·rintro n (hg|⟨_,rfl⟩)
  ·exact Nat.lt_succ_of_lt (h.stamps n hg)
  ·exact Nat.lt_succ_self _
 ·rintro n m (hg|⟨_,rfl⟩) (hU|⟨_,rfl⟩) hh
  ·rw[e.gh _ _ hg,e.gh _ _ hU]at hh;exact h.inj n m hg hU hh
  ·rw[e.gh _ _ hg,hgh]at hh;have:=h.vl n hg;omega
  ·rw[e.gh _ _ hU,hgh]at hh;have:=h.vl m hU;omega
  ·rfl
section
variable {E : Env} {P : Program} (he : CN E P)
def rp (C:Cx):Option WV→Option (Nat×Value)→Prop
 |none,none=>True
 |some e,some p=>VR C e.2.1 p.2
 |_,_=>False
theorem rq {kd:Kd} {k:AV} (h:bU kd k=true):eO k=true:=Sj h
include he
theorem Ey {t:TypeId} {kd:Kd} (hk:Y9 E t=some kd) {C:Cx} {a:AV} {x:Value} (ha:VR C a x) (WX:bU kd a=true) (empty:Bool) (w:World):
 (Instr.checkKey empty 10000 t x).run P w= .ok () w:=PO he hk ha WX empty 9998 w
theorem TX {o:Oper} {t:TypeId} {x k:Operand} {ok:Bool} (ho:o.op= .lookup t x k ok):XN E P o (eQ E t x k ok):=by
 unfold eQ;split
 ·next key elem hu=>
  split
  ·next z kd hz hk=>
   intro C T a S w hg hT hS v h;obtain⟨av,cj,h⟩:=Qa.1 h;obtain⟨kv,hkv,h⟩:=Qa.1 h;have Yq:=Ay hg hT cj;have lJ:=Ay hg hT hkv;unfold eP at h;cases WX:bU kd kv with
   |false=>rw[WX]at h;cases h
   |true=>
   rw[WX]at h;simp only[cond_true]at h;obtain⟨es,bX,h⟩:=Qa.1 h;obtain⟨r,hr,h⟩:=Qa.1 h;cases h;obtain⟨zv,mq,bN⟩:=HM he hz;have gP:=fun e w=>Ey he hk lJ WX e w;have fin:∀(arr:Array MapEntry) (q:Option (Nat×Value)),(Instr.findKey key (a.eval k) arr.toList).run P w= .ok q w→
    rp C r q→
    ∃y,((do
     Instr.checkKey arr.isEmpty 10000 key (a.eval k)
     let(v,oy)←match←Instr.findKey key (a.eval k) arr.toList with
      |some (_,v)=>pure (v,true)
      |none=>pure (←zeroValue elem,false)
     pure (if ok then .tuple #[v,.bool oy]else v)):Sem Value).run P w= .ok y w∧VR C (iq ok z r) y:=by
    intro arr q hq pq;simp only[Sem.run_bind,gP,Result.andThen_ok,hq];cases r with
    |none=>
     cases q with
     |some p=>exact pq.elim
     |none=>
      simp only[Sem.run_bind,mq,Result.andThen_ok,Sem.run_pure];cases ok with
      |true=>exact⟨_,rfl,.tuple (by simpa using VS.cons (bN C) (VS.one (.bool false)))⟩
      |false=>exact⟨_,rfl,bN C⟩
    |some e=>
     cases q with
     |none=>exact pq.elim
     |some p=>
      obtain⟨i,pv⟩:=p;simp only[Sem.run_pure,Result.andThen_ok];cases ok with
      |true=>exact⟨_,rfl,.tuple (by simpa using VS.cons pq (VS.one (.bool true)))⟩
      |false=>exact⟨_,rfl,pq⟩
   cases av with
   |VU=>
    cases bX;cases hr;generalize hq:a.eval x=q at Yq;cases Yq;obtain⟨y,hy,dL⟩:=fin #[] none (ID he hk lJ (n:=0) (L:=[]) (by simp)) trivial;refine⟨y,?_,dL⟩;simp only[execOp,ho,Sem.run_bind,hq,Instr.lookup,Ak he hu,Result.andThen_ok,Sem.run_pure];simp only[Sem.run_bind]at hy;exact congrArg (fun R:Result Value=>R.andThen fun a w'=>Result.ok (Next.value a) w') hy
   |map b=>
    simp only[im]at bX;obtain⟨cl,hb⟩:=Ka bX;obtain⟨arr,l,hm⟩:=hS.map hb;generalize hq:a.eval x=q at Yq;cases Yq;obtain⟨g1,g2⟩:=HY he hk lJ hm hr;have:∃q,(Instr.findKey key (a.eval k) arr.toList).run P w= .ok q w∧rp C r q:=by
     cases r with
     |none=>exact⟨none,(g1 rfl).1 w,trivial⟩
     |some e=>
      obtain⟨_,_,_,i,m,_,_,hv,_,hf⟩:=g2 e rfl;exact⟨_,hf w,hv⟩
    obtain⟨qq,hqq,pq⟩:=this;obtain⟨y,hy,dL⟩:=fin arr qq hqq pq;refine⟨y,?_,dL⟩;simp only[execOp,ho,Sem.run_bind,hq,Instr.lookup,Ak he hu,Result.andThen_ok,AR hm.at_ (by simp),Sem.run_pure];simp only[Sem.run_bind]at hy;exact congrArg (fun R:Result Value=>R.andThen fun a w'=>Result.ok (Next.value a) w') hy
   |_=>cases bX
  ·exact A5
 ·exact A5
omit he in
theorem BR {C:Cx} {S:St} {w:World} (hS:Wn C S w) {b:Nat} {o0:CB} (hb:S.heap.get b=some o0) {C':Cx} (e:Ext C C') (hD:∀k,C'.D k→C.D k) (hM:C'.M=C.M) (hX:C'.X=C.X)
 (hG:∀k n,C'.G k n→C.G k n∨k=b) {o:CB} {x y:Obj} (hx:w.heap[(C.pl b).Cn]?=some y) (hc:∀c e f,y≠ .cells c e f) (hr:OR C' b o x):
 (setObj (C.pl b).Cn x).run P w= .ok () (World.CP w (C.pl b).Cn x)∧Cv C S w C' (S.put b (some o)) (World.CP w (C.pl b).Cn x):=
 ⟨DI hx hc,KL hS hb e hD hM hX hG o x hr⟩
omit he in
theorem QO {C:Cx} {k:AV} {kx:Value} (hk:VR C k kx) (WX:eO k=true) (w:World):(Instr.keyThatStays kx kx).run P w= .ok kx w:=
 rn (Pc WX hk 9999)
theorem Ur {t key elem:TypeId} {kd:Kd} (hu:C7 E t=some (.map key elem)) (hk:Y9 E key=some kd) {C:Cx} {S S':St} {w:World} (hS:Wn C S w) {k v m:AV} {kx vx mx:Value}
 (lJ:VR C k kx) (hvv:VR C v vx) (iO:VR C m mx) (h:de kd S k v m=some S'):∃C' w',(Instr.mapUpdate t mx kx vx).run P w= .ok () w'∧Cv C S w C' S' w':=by
 unfold de at h;split at h
 ·next b=>
  cases WX:bU kd k with
  |false=>rw[WX]at h;cases h
  |true=>
  rw[WX]at h;simp only[cond_true]at h;unfold eR at h;split at h
  ·next es clock hb=>
   obtain⟨r,hr,h⟩:=Qa.1 h;obtain⟨arr,l,hm⟩:=hS.map hb;obtain⟨g1,g2⟩:=HY he hk lJ hm hr;have gP:=fun e w=>Ey he hk lJ WX e w;have rr:=rq WX;cases iO with
   |map hd=>
   cases r with
   |none=>
    cases h;obtain⟨jS,n6⟩:=hm.add lJ hvv rr (g1 rfl).2;obtain⟨C5,ht⟩:=BR (P:=P) hS hb (Ext.WY jS) (fun _ h=>h) rfl rfl (fun k n h=>h.imp id (fun h=>h.1)) hm.at_ (by simp) n6;refine⟨_,_,?_,ht⟩;simp only[Instr.mapUpdate,Sem.run_bind,Ak he hu,Result.andThen_ok,AR hm.at_ (by simp),gP,(g1 rfl).1,C5]
   |some e=>
    cases h;obtain⟨XY,pT,aG,i,me,hi,hmk,hmv,hmb,hf⟩:=g2 e rfl;have n6:=hm.upd lJ hvv hr hi hmb;obtain⟨C5,ht⟩:=BR (P:=P) hS hb (.refl C) (fun _ h=>h) rfl rfl (fun k n h=> .inl h) hm.at_ (by simp) n6;refine⟨_,_,?_,ht⟩;simp only[Instr.mapUpdate,Sem.run_bind,Ak he hu,Result.andThen_ok,AR hm.at_ (by simp),gP,hf,hi,Option.map_some,Option.getD_some,hmk,QO lJ rr,C5]
  ·cases h
 ·cases h
theorem N7 {o:Oper} {t:TypeId} {m k v:Operand} (ho:o.op= .mapUpdate t m k v∨o.op= .insert t m k v):XN E P o (dh E t m k v):=by
 unfold dh;split
 ·next key elem hu=>
  split
  ·next kd hk=>
   intro C T a S w hg hT hS r S' h;obtain⟨av,cj,h⟩:=Qa.1 h;obtain⟨bv,pj,h⟩:=Qa.1 h;obtain⟨cv,pr,h⟩:=Qa.1 h;obtain⟨s',Xm,hr⟩:=F6 h;cases hr;obtain⟨C',w',C5,ht⟩:=Ur he hu hk hS (Ay hg hT pj) (Ay hg hT pr) (Ay hg hT cj) Xm;refine⟨C',.skip,w',?_,ht,.skip⟩;rcases ho with ho|ho<;>simp[execOp,ho,C5]
  ·exact A5
 ·exact A5
theorem Pi {o:Oper} {t:TypeId} {m k:Operand} (ho:o.op= .mapEntry t m k):XN E P o (fM E t m k):=by
 unfold fM;split
 ·next key elem hu=>
  split
  ·next z kd hz hk=>
   intro C T a S w hg hT hS r S' h;obtain⟨av,cj,h⟩:=Qa.1 h;obtain⟨kv,pj,h⟩:=Qa.1 h;have iO:=Ay hg hT cj;have lJ:=Ay hg hT pj;cases av with
   |map b=>
    simp only[fL]at h;cases WX:bU kd kv with
    |false=>rw[WX]at h;cases h
    |true=>
    rw[WX]at h;simp only[cond_true]at h;unfold ir at h;split at h
    ·next es clock hb=>
     obtain⟨r',hr,h⟩:=Qa.1 h;obtain⟨arr,l,hm⟩:=hS.map hb;obtain⟨g1,g2⟩:=HY he hk lJ hm hr;have gP:=fun e w=>Ey he hk lJ WX e w;have rr:=rq WX;obtain⟨zv,mq,bN⟩:=HM he hz;generalize hq:a.eval m=q at iO;cases iO with
     |map hd=>
     cases r' with
     |none=>
      cases h;obtain⟨jS,n6⟩:=hm.add lJ (bN C) rr (g1 rfl).2;obtain⟨C5,ht⟩:=BR (P:=P) hS hb (Ext.WY jS) (fun _ h=>h) rfl rfl (fun k n h=>h.imp id (fun h=>h.1)) hm.at_ (by simp) n6;refine⟨_,.value _,_,?_,ht,.value (.tuple (x:= #[zv,goInt clock]) (.cons (bN _) (.one ?_)))⟩
      ·simp only[execOp,ho,Instr.mapEntry,Sem.run_bind,hq,Ak he hu,Result.andThen_ok,AR hm.at_ (by simp),gP,(g1 rfl).1,mq,C5,Sem.run_pure]
      ·have:=VR.YS (C:=C.WY b clock) (b:=b) (n:=clock) (.inr ⟨rfl,rfl⟩);have hgh:(C.WY b clock).gh b clock=clock:=by simp[Cx.WY]
       rw[hgh]at this;exact this
     |some e=>
      cases h;obtain⟨XY,pT,aG,i,me,hi,hmk,hmv,hmb,hf⟩:=g2 e rfl;have jQ:World.CP w (C.pl b).Cn (.map (arr.modify i fun e=> {e with key:=a.eval k}) clock)=w:=by
       have:arr.modify i (fun e=> {e with key:=a.eval k})=arr:=by
        apply Array.ext_getElem?;intro j;rw[Array.getElem?_modify];split
        ·next e=>subst e;rw[hi];simp[←hmk]
        ·rfl
       rw[this];unfold World.CP;have:w.heap.setIfInBounds (C.pl b).Cn (.map arr clock)=w.heap:=by
        apply Array.ext_getElem?;intro j;rw[Array.getElem?_setIfInBounds];split
        ·next e=>subst e;rw[hm.at_];simp[BM hm.at_]
        ·rfl
       rw[this]
      have C5:=DI (P:=P) (w:=w) (r:=(C.pl b).Cn) (o:= .map (arr.modify i fun e=> {e with key:=a.eval k}) clock) hm.at_ (by simp);rw[jQ]at C5;refine⟨C,.value _,w,?_,Cv.refl hS,.value (.tuple (x:= #[me.val,goInt me.born]) (.cons hmv (.one ?_)))⟩
      ·simp only[execOp,ho,Instr.mapEntry,Sem.run_bind,hq,Ak he hu,Result.andThen_ok,AR hm.at_ (by simp),gP,hf,hi,Option.map_some,Option.getD_some,hmk,QO lJ rr,C5,Sem.run_pure]
      ·have:=VR.YS (C:=C) (b:=b) (n:=e.2.2) aG;rw[←hmb]at this;exact this
    ·cases h
   |_=>simp[fL]at h
  ·exact A5
 ·exact A5
end
theorem HH {C:Cx} {b:Nat} {v:AV} {vx:Value} (hv:VR C v vx) {n:Nat} (hi:∀j,C.G b j→C.gh b j=C.gh b n→j=n):
 ∀ {es gu:List WV} {l:List MapEntry},Wq C b es l→(es.map (·.2.2)).Nodup→cw n v es=some gu→
  Wq C b gu (l.map (X7 (C.gh b n) fun e=> {e with val:=vx}))∧gu.map (·.1)=es.map (·.1)∧C.G b n∧∃m∈l,m.born=C.gh b n
 |_,_,_,.nil,_,h=>by cases h
 |e::es,gu,m::l,.cons h1 h2 h3 h4 t,hn,h=>by
  simp only[List.map_cons,List.nodup_cons]at hn;simp only[cw]at h;simp only[List.map_cons];cases hq:Nat.beq _ n with
  |true=>
   rw[hq]at h;cases h;have fK:=Qb hq;have hm:m.born=C.gh b n:=by rw[h4];exact congrArg _ fK
   have ZR:l.map (X7 (C.gh b n) fun e=> {e with val:=vx})=l:=by
    rw[List.map_congr_left (g:=id),List.map_id];intro m' jf;obtain⟨e',Y0,_,_,g3,g4⟩:=t.pk jf;have:m'.born≠C.gh b n:=by
     rw[g4];intro hb;have:=hi _ g3 hb;exact hn.1 (List.mem_map.2 ⟨e',Y0,this.trans fK.symm⟩)
    simp[X7,this]
   rw[ZR];simp only[X7,hm,if_true];exact⟨.cons h1 hv h3 (hm.symm.trans h4) t,rfl,fK▸h3,m,Qh ..,hm⟩
  |false=>
   rw[hq]at h;obtain⟨r,hr,h⟩:=Qa.1 h;cases h;have fK:¬_=n:=Nat.ne_of_beq_eq_false hq;have hm:m.born≠C.gh b n:=by
    rw[h4];intro hb;exact fK (hi _ h3 hb)
   obtain⟨a1,a2,a3,m',jf,a4⟩:=HH hv hi t hn.2 hr;simp only[X7,hm,if_false];exact⟨.cons h1 h2 h3 h4 a1,by simp[a2],a3,m',Qg _ jf,a4⟩
theorem Jd {n:Nat}:∀ {l:List MapEntry},(∃m∈l,m.born=n)→∃i m,l.findIdx? (fun e=>(e.born:Int)==(n:Int))=some i∧l[i]?=some m∧m.born=n
 | [],h=>by obtain⟨_,h,_⟩:=h;cases h
 |a::l,h=>by
  by_cases ha:a.born=n
  ·exact⟨0,a,by simp[List.findIdx?_cons,ha],rfl,ha⟩
  ·obtain⟨m,hm,hn⟩:=h;have jf:m∈l:=(Qk.1 hm).resolve_left (fun e=>ha (e▸hn));obtain⟨i,m',h1,h2,h3⟩:=Jd (l:=l) ⟨m,jf,hn⟩;refine⟨i+1,m',?_,by simpa using h2,h3⟩;have:((a.born:Int)==(n:Int))=false:=by simp only[beq_eq_false_iff_ne,ne_eq];omega
   simp[List.findIdx?_cons,this,h1]
theorem fp.YS {C:Cx} {b clock:Nat} {es gu:List WV} {w:World} {arr:Array MapEntry} {l:List MapEntry} (h:fp C b es clock w arr l) {v:AV} {vx:Value} (hv:VR C v vx) {n:Nat} (hg:C.G b n)
 (hs:cw n v es=some gu):∃i,arr.findIdx? (fun e=>(e.born:Int)==(C.gh b n:Int))=some i∧OR C b (.map gu clock) (.map (arr.modify i fun e=> {e with val:=vx}) clock):=by
 obtain⟨a1,a2,a3,m,hm,a4⟩:=HH hv (fun j hj hgj=>h.inj _ _ hj hg hgj) h.b8 h.YE hs;obtain⟨i,m',h1,h2,h3⟩:=Jd (l:=arr.toList) ⟨m,h.perm.mem_iff.1 hm,a4⟩;refine⟨i,by rw[←h1];have:=List.findIdx?_toArray (p:=fun e:MapEntry=>(e.born:Int)==(C.gh b n:Int)) (l:=arr.toList);simpa using this,.map (l:=l.map (X7 (C.gh b n) fun e=> {e with val:=vx})) ?_ a1 (by rw[Jn,a2,←Jn];exact h.keys) ?_ h.vl h.stamps h.inj⟩
 ·rw[JX h.fZ (by simpa using h2),h3];exact h.perm.map _
 ·rw[List.map_map];have:((·.born)∘X7 (C.gh b n) fun e=> {e with val:=vx}:MapEntry→Nat)=(·.born):=by
   funext m;simp only[Function.comp,X7];split<;>rfl
  rw[this];exact h.nodup
section
variable {E : Env} {P : Program} (he : CN E P)
theorem Mp {o:Oper} {t:TypeId} {m st v:Operand} (ho:o.op= .entryStore t m st v):
 XN E P o (.act true (Cc E m) fun T s=>(Cc E m T).bind fun a=>(Cc E st T).bind fun b=>(Cc E v T).bind fun c=>ai (cy s c a b)):=by
 intro C T a S w hg hT hS r S' h;obtain⟨av,cj,h⟩:=Qa.1 h;obtain⟨sv,hsv,h⟩:=Qa.1 h;obtain⟨vv,hvv,h⟩:=Qa.1 h;obtain⟨s',Xm,hr⟩:=F6 h;cases hr;have iO:=Ay hg hT cj;have Wk:=Ay hg hT hsv;have Yq:=Ay hg hT hvv;cases av with
 |map b=>
  cases sv<;>try (cases Xm;done)
  rename_i c n _
  simp only[cy]at Xm;cases hbc:Nat.beq b c with
  |false=>rw[hbc]at Xm;cases Xm
  |true=>
  rw[hbc]at Xm;have:=Qb hbc;subst this;simp only[cond_true]at Xm;unfold eS at Xm;split at Xm
  ·next es clock hb=>
   obtain⟨gu,bX,Xm⟩:=Qa.1 Xm;cases Xm;obtain⟨arr,l,hm⟩:=hS.map hb;generalize hq:a.eval m=q at iO;generalize hq':a.eval st=q' at Wk;cases iO with
   |map hd=>
   cases Wk with
   |YS hgs=>
   obtain⟨i,hi,n6⟩:=hm.YS Yq hgs bX;obtain⟨C5,ht⟩:=BR (P:=P) hS hb (.refl C) (fun _ h=>h) rfl rfl (fun k n h=> .inl h) hm.at_ (by simp) n6;refine⟨C,.skip,_,?_,ht,.skip⟩;simp only[execOp,ho,Instr.entryStore,Sem.run_bind,hq,hq',AR hm.at_ (by simp),Result.andThen_ok,asInt,asIntOf,Sem.run_pure,hi,C5]
  ·cases Xm
 |_=>cases Xm
include he
theorem Ue {o:Oper} {c:Call} {t:TypeId} {ts:List TypeId} {m k:Operand} (ho:o.op= .call c) (hc:c.callee= .builtin .delete) (jt:c.argTypes.toList=t::ts) (ZQ:c.args.toList=[m,k]):
 XN E P o (zy E t m k):=by
 have cM:c.argTypes[0]?=some t:=by rw[←Array.getElem?_toList,jt];rfl
 have X0:∀ρ:Operand→Value,c.args.map ρ= #[ρ m,ρ k]:=by
  intro ρ;apply Array.ext';simp[ZQ]
 unfold zy;split
 ·next key elem hu=>
  split
  ·next kd hk=>
   intro C T a S w hg hT hS r S' h;obtain⟨av,cj,h⟩:=Qa.1 h;obtain⟨kv,pj,h⟩:=Qa.1 h;obtain⟨s',Xm,hr⟩:=F6 h;cases hr;have iO:=Ay hg hT cj;have lJ:=Ay hg hT pj;have aX:(execOp a.eval o).run P w=(do pure (Next.value (←Builtin.delete_ c.argTypes o.type #[a.eval m,a.eval k])):Sem Next).run P w:=by
    simp[execOp,ho,resolve,hc,invoke,builtin,X0]
   cases av with
   |map b=>
    simp only[vA]at Xm;cases WX:bU kd kv with
    |false=>rw[WX]at Xm;cases Xm
    |true=>
    rw[WX]at Xm;simp only[cond_true]at Xm;have gP:=fun e w=>Ey he hk lJ WX e w;unfold y5 at Xm;split at Xm
    ·next es clock hb=>
     obtain⟨r',hr,Xm⟩:=Qa.1 Xm;obtain⟨arr,l,hm⟩:=hS.map hb;obtain⟨g1,g2⟩:=HY he hk lJ hm hr;generalize hq:a.eval m=q at iO;cases iO with
     |map hd=>
     cases r' with
     |none=>
      cases Xm;have C5:=DI (P:=P) (w:=w) (r:=(C.pl b).Cn) (o:= .map arr clock) hm.at_ (by simp);have jQ:World.CP w (C.pl b).Cn (.map arr clock)=w:=by
       unfold World.CP;have:w.heap.setIfInBounds (C.pl b).Cn (.map arr clock)=w.heap:=by
        apply Array.ext_getElem?;intro j;rw[Array.getElem?_setIfInBounds];split
        ·next e=>subst e;rw[hm.at_];simp[BM hm.at_]
        ·rfl
       rw[this]
      rw[jQ]at C5;refine⟨C,.value _,w,?_,Cv.refl hS,.value VR.unit⟩;rw[aX];simp[Builtin.delete_,cM,Ak he hu,hq,AR hm.at_ (by simp),gP,(g1 rfl).1,C5]
     |some e=>
      cases Xm;obtain⟨XY,pT,aG,i,me,hi,hmk,hmv,hmb,hf⟩:=g2 e rfl;have n6:=hm.del hr hi hmb;obtain⟨C5,ht⟩:=BR (P:=P) hS hb (.refl C) (fun _ h=>h) rfl rfl (fun k n h=> .inl h) hm.at_ (by simp) n6;refine⟨C,.value _,_,?_,ht,.value VR.unit⟩;rw[aX];simp[Builtin.delete_,cM,Ak he hu,hq,AR hm.at_ (by simp),gP,hf,C5]
    ·cases Xm
   |VU=>
    simp only[vA]at Xm;cases WX:bU kd kv with
    |false=>rw[WX]at Xm;cases Xm
    |true=>
    rw[WX]at Xm;cases Xm;have gP:=fun e w=>Ey he hk lJ WX e w;generalize hq:a.eval m=q at iO;cases iO with
    |VU=>
    refine⟨C,.value _,w,?_,Cv.refl hS,.value VR.unit⟩;rw[aX];simp[Builtin.delete_,cM,Ak he hu,hq,gP]
   |_=>simp[vA]at Xm
  ·exact A5
 ·exact A5
theorem ru {o:Oper} {t:TypeId} {x:Operand} (ho:o.op= .range t x):XN E P o (iy E t x):=by
 unfold iy;split
 ·next hu=>
  intro C T a S w hg hT hS;refine⟨fun v h=>?_,fun ob g h=>?_⟩
  ·obtain⟨av,cj,h⟩:=Qa.1 h;cases av<;>cases h
  ·obtain⟨av,cj,h⟩:=Qa.1 h;have hv:=Ay hg hT cj;cases av<;>try (cases h;done)
   rename_i b
   cases h;generalize hq:a.eval x=q at hv;cases hv with
   |str hs=>
   refine⟨_,_,_,?_,Cv.alloc hS _ (.stringIter _ 0) 0 (.X5 hs (by rw[Bx])),GA 0⟩;simp[execOp,ho,Instr.range,Ak he hu,hq,World.VN]
 ·next k e hu=>
  intro C T a S w hg hT hS v S' h;obtain⟨av,cj,h⟩:=Qa.1 h;have hv:=Ay hg hT cj;cases av with
  |VU=>
   cases h;generalize hq:a.eval x=q at hv;cases hv;refine⟨_,.value _,_,?_,Cv.alloc hS _ (.mapIter none 0 #[] 0) 0 (.kT (by rw[Bx])),.value (GA 0)⟩;simp[execOp,ho,Instr.range,Ak he hu,hq,World.VN]
  |map m=>
   simp only[rangeMap]at h;split at h
   ·next es clock hb=>
    cases h;obtain⟨arr,l,hm⟩:=hS.map hb;generalize hq:a.eval x=q at hv;cases hv with
    |map hd=>
    have X3:(C.fresh S w 0).pl m=C.pl m:=(GB hS 0).pl m hd;refine⟨_,.value _,_,?_,Cv.alloc hS _ (.mapIter (some (C.pl m).Cn) clock #[] clock) 0 ?_,.value (GA 0)⟩
    ·simp[execOp,ho,Instr.range,Ak he hu,hq,AR hm.at_ (by simp),World.VN]
    ·have:=OR.Zt (C:=C.fresh S w 0) (b:=S.next) (m:=m) (since:=clock) (WC:=clock) (seen:=[]) (arr:= #[]) ((GB hS 0).D m hd) (by simp) rfl (by rw[Bx]);rw[X3]at this;exact this
   ·cases h
  |_=>cases h
 ·exact A5
end
section
variable {E : Env} {P : Program}
theorem Iz {α β γ:Type} (r:Result α) (f:α→World→Result β) (g:β→World→Result γ):(r.andThen f).andThen g=r.andThen fun a w=>(f a w).andThen g:=by
 cases r<;>rfl
theorem Tq {n:Nat}:∀ {l:List Nat},jD n l=true↔n∈l
 | []=>by simp[jD]
 |k::l=>by
  simp only[jD];cases h:Nat.beq k n with
  |true=>have:=Qb h;subst this;simp
  |false=>
   have:=Nat.ne_of_beq_eq_false h;simp only[cond_false,Qk];rw[Tq];constructor
   ·exact .inr
   ·rintro(rfl|h')
    ·exact absurd U this
    ·exact h'
theorem NO {seen:List Nat} {e:WV}:∀ {es:List WV},e∈eU seen es↔e∈es∧e.2.2∉seen
 | []=>by simp[eU]
 |a::l=>by
  simp only[eU];cases h:jD a.2.2 seen with
  |true=>
   have:=Tq.1 h;simp only[cond_true];rw[NO];constructor
   ·rintro⟨h1,h2⟩;exact⟨Qg _ h1,h2⟩
   ·rintro⟨h1,h2⟩;rcases Qk.1 h1 with rfl|h1
    ·exact absurd this h2
    ·exact⟨h1,h2⟩
  |false=>
   have hn:a.2.2∉seen:=fun hm=>by rw[Tq.2 hm]at h;cases h
   simp only[cond_false,Qk];rw[NO];constructor
   ·rintro(rfl|⟨h1,h2⟩)
    ·exact⟨.inl U,hn⟩
    ·exact⟨.inr h1,h2⟩
   ·rintro⟨rfl|h1,h2⟩
    ·exact .inl U
    ·exact .inr ⟨h1,h2⟩
theorem L0 {s:St} {r m since clock:Nat} {seen:List Nat} {e:WV}:∀ {es:List WV},e∈es→
 (AV.tuple [.bool true,e.1,e.2.1],s.put r (some (.Zt (some m) since (seen++[e.2.2]) clock)))∈kD s r m since clock seen es
 |a::l,h=>by
  simp only[kD];rcases Qk.1 h with rfl|h
  ·exact Qh ..
  ·exact Qg _ (L0 h)
theorem SA {s:ByteArray} {pos:Nat} {c:UInt8} (h:s.data[pos]?=some c) (hc:c.toNat<128):Utf8.decode s pos=(c.toNat,1):=by
 have hg:s.get! pos=c:=by
  have C6:pos<s.data.size:=by
   rcases Nat.lt_or_ge pos s.data.size with h'|h'
   ·exact h'
   ·rw[Array.getElem?_eq_none h']at h;cases h
  have:s.data[pos]! =c:=by rw[getElem!_pos s.data pos C6];rw[Array.getElem?_eq_getElem C6]at h;exact Option.some.inj h
  exact this
 simp only[Utf8.decode,Nat.add_zero,hg];rw[if_pos (by omega)]
theorem NI {s:St} {v:AV} {r} (h:bq s v=some r):∃b,v= .ptr b 0∧aO s b (s.heap.get b)=some r:=by
 unfold bq at h;split at h
 ·exact⟨_,rfl,h⟩
 ·cases h
theorem NJ {s:St} {v:AV} {r} (h:gX s v=some r):∃b,v= .ptr b 0∧fO s b (s.heap.get b)=some r:=by
 unfold gX at h;split at h
 ·exact⟨_,rfl,h⟩
 ·cases h
theorem PG {s:St} {v:AV} {r} (h:kG s v=some r):∃b,v= .ptr b 0∧kF s (s.heap.get b)=some r:=by
 unfold kG at h;split at h
 ·exact⟨_,rfl,h⟩
 ·cases h
theorem Sa {o:Oper} {it:Operand} (ho:o.op= .next it true):XN E P o (.act true (Cc E it) fun T s=>(Cc E it T).bind (bq s)):=by
 intro C T a S w hg hT hS v S' h;obtain⟨av,cj,h⟩:=Qa.1 h;have hv:=Ay hg hT cj;obtain⟨r,kY,h1⟩:=NI h;subst kY;replace h:=h1;clear h1;unfold aO at h;split at h
 ·next b pos hb=>
  obtain⟨l,hl,h⟩:=Qa.1 h;obtain⟨hd,x,hx,hr⟩:=hS.live r _ hb;generalize hq:a.eval it=q at hv;cases hv with
  |ptr mr=>
  cases hr with
  | @X5 _ s _ hs dM=>
  rw[dM]at hq;obtain⟨pre,gO,X3⟩:=Dz hl;have hlen:s.size=pre.length+l.length:=by
   have:s.size=s.data.toList.length:=by simp
   rw[this,hs,gO];simp
  have Y2:=AR (P:=P) (w:=w) hx (by simp);split at h
  ·next c rest=>
   have pw:pos<s.size:=by simp at hlen;omega
   have hc:s.data[pos]?=some c:=by
    rw[←Array.getElem?_toList,hs,gO,List.getElem?_append_right (by omega)];simp[X3]
   have hstr:(⟨b.toArray⟩:ByteArray)=s:=by apply ByteArray.ext;apply Array.ext';simp[hs]
   cases zW:Nat.blt c.toNat 128 with
   |true=>
    rw[zW]at h;cases h;have C6:c.toNat<128:=by simpa[Nat.blt_eq]using zW
    obtain⟨C5,ht⟩:=BR (P:=P) hS hb (.refl C) (fun _ h=>h) rfl rfl (fun k n h=> .inl h) hx (by simp) (OR.X5 (C:=C) (b:=r) (pos:=pos+1) hs dM);refine⟨C,.value _,_,?_,ht,.value (.tuple (x:= #[.bool true,goInt pos,.int .i32 c.toNat]) (.cons (.bool true) (.cons (.int _ _) (.one (.int _ _)))))⟩;simp[execOp,ho,Instr.next,hq,Y2,pw,SA hc C6,C5]
   |false=>
    rw[zW]at h;simp only[cond_false,oh,hstr]at h;cases h;obtain⟨C5,ht⟩:=BR (P:=P) hS hb (.refl C) (fun _ h=>h) rfl rfl (fun k n h=> .inl h) hx (by simp) (OR.X5 (C:=C) (b:=r) (pos:=pos+(Utf8.decode s pos).2) hs dM);refine⟨C,.value _,_,?_,ht,.value (.tuple (x:= #[.bool true,goInt pos,.int .i32 (Utf8.decode s pos).1]) (.cons (.bool true) (.cons (.int _ _) (.one (.int _ _)))))⟩;simp[execOp,ho,Instr.next,hq,Y2,pw,C5]
  ·cases h;have pw:¬pos<s.size:=by simp at hlen;omega
   refine⟨C,.value _,w,?_,Cv.refl hS,.value (.tuple (x:= #[.bool false]) (.one (.bool false)))⟩;simp[execOp,ho,Instr.next,hq,Y2,pw]
 ·cases h
theorem S7 {α:Type} {p:α→Bool} {l:List α} (h:∀x∈l,p x=true):l.filter p=l:=List.filter_eq_self.2 h
theorem PC {α:Type} {p:α→Bool} {l:List α} (h:∀x∈l,p x=false):l.filter p=[]:=by
 rw[List.filter_eq_nil_iff];intro x hx;rw[h x hx];simp
theorem Sb {o:Oper} {it:Operand} (ho:o.op= .next it false):XN E P o (.j6 fun T s=>(Cc E it T).bind (gX s)):=by
 intro C T a S w hg hT hS ps h;obtain⟨av,cj,h⟩:=Qa.1 h;have hv:=Ay hg hT cj;obtain⟨r,kY,h1⟩:=NJ h;subst kY;replace h:=h1;clear h1;unfold fO at h;generalize hq:a.eval it=q at hv;cases hv with
 |ptr mr=>
 split at h
 ·next hb=>
  cases h;obtain⟨hd,x,hx,hr⟩:=hS.live r _ hb;cases hr with
  |kT dM=>
  rw[dM]at hq;have Y2:=AR (P:=P) (w:=w) hx (by simp);refine⟨_,Qp.2 U,C,_,w,?_,Cv.refl hS,.tuple (x:= #[.bool false]) (.one (.bool false))⟩;simp[execOp,ho,Instr.next,hq,Y2]
 ·next m since seen WC hb=>
  obtain⟨hd,x,hx,hr⟩:=hS.live r _ hb;cases hr with
  | @Zt _ _ _ _ gd hdm hgs o6 dM=>
  rw[dM]at hq;have Y2:=AR (P:=P) (w:=w) hx (by simp);unfold jE at h;split at h
  ·next es clock lI=>
   obtain⟨arr,l,hm⟩:=hS.map lI;cases XK:(Nat.beq clock WC&&Nat.beq clock since)with
   |false=>rw[XK]at h;cases h
   |true=>
   rw[XK]at h;simp only[Qf]at XK;have h1:=Qb XK.1;have h2:=Qb XK.2;subst h1;subst h2;simp only[cond_true]at h;have ry:=AR (P:=P) (w:=w) hm.at_ (by simp);have C6:=hm.b8.kW hm.vl;have gQ:∀e∈arr.toList,e.born<clock:=fun e he=>C6 e (hm.perm.mem_iff.2 he);have Ym:(!gd.isEmpty&& !arr.isEmpty&&arr.all (fun e=>decide (e.born≥clock)))=false:=by
    cases ha:arr.toList with
    |nil=>
     have:arr= #[]:=Array.ext' (by simpa using ha);subst this;simp
    |cons e rest=>
     have:=gQ e (by rw[ha];exact Qh ..);have hf:arr.all (fun e=>decide (e.born≥clock))=false:=by
      rw[←Array.all_toList,ha];simp only[List.all_cons,Bool.and_eq_false_imp,decide_eq_true_eq];intro h;omega
     rw[hf];simp
   have fq:∀e∈es,∀n,n=C.gh m e.2.2→C.G m e.2.2→(gd.contains n=true↔e.2.2∈seen):=by
    rintro e _ n rfl aG;rw[Array.contains_iff_mem,←Array.mem_toList_iff,o6,List.mem_map];constructor
    ·rintro⟨k,hk,hkk⟩;have:=hm.inj _ _ (hgs k hk) aG hkk;rw[←this];exact hk
    ·intro hk;exact⟨_,hk,rfl⟩
   have hold:(arr.filter fun e=> !gd.contains e.born).filter (fun e=>decide (e.born<clock))=arr.filter fun e=> !gd.contains e.born:=by
    apply Array.ext';rw[Array.toList_filter];apply S7;intro e he;have:e∈arr.toList:=by
     rw[Array.toList_filter]at he;exact(List.mem_filter.1 he).1
    simp[gQ e this]
   have en:(arr.filter fun e=> !gd.contains e.born).filter (fun e=>decide (e.born≥clock))= #[]:=by
    apply Array.ext';rw[Array.toList_filter];apply PC;intro e he;have:e∈arr.toList:=by
     rw[Array.toList_filter]at he;exact(List.mem_filter.1 he).1
    have:=gQ e this;simp;omega
   generalize rz:(arr.filter fun e=> !gd.contains e.born)=left at hold en;have pickk:∀n,0<n→∃k w1,(choose (.mapNext n)).run P w= .ok k w1∧k<n∧w1.heap=w.heap∧Cv C S w C S w1:=by
    intro n hn;by_cases hf:n≤1
    ·exact⟨0,w,by simp[choose,Sem.run,Question.forced,hf],hn,rfl,Cv.refl hS⟩
    ·refine⟨w.tape w.drawn (.mapNext n) % n, {w with drawn:=w.drawn+1},by simp[choose,Sem.run,Question.forced,hf,Question.cut],Nat.mod_lt _ hn,rfl,Cv.drew hS _⟩
   have rA:∀e∈left,∃q∈eU seen es,VR C q.1 e.key∧VR C q.2.1 e.val∧C.G m q.2.2∧e.born=C.gh m q.2.2:=by
    intro e he;rw[←rz,←Array.mem_toList_iff,Array.toList_filter,List.mem_filter]at he;obtain⟨q,dK,jg,hq3,hq4,hq5⟩:=hm.b8.pk (hm.perm.mem_iff.2 he.1);refine⟨q,NO.2 ⟨dK,fun hs=>?_⟩,jg,hq3,hq4,hq5⟩;have:=(fq q dK e.born hq5 hq4).2 hs;rw[this]at he;simp at he
   have zX:eU seen es≠ []→left≠ #[]:=by
    intro Xl X9;obtain⟨q,hq⟩:=List.exists_mem_of_ne_nil _ Xl;obtain⟨dK,jg⟩:=NO.1 hq;obtain⟨e,he1,he2,he3,he4,he5⟩:=hm.b8.mem dK;have XY:e∈left:=by
     rw[←rz,←Array.mem_toList_iff,Array.toList_filter,List.mem_filter];refine⟨hm.perm.mem_iff.1 he1,?_⟩;cases hc:gd.contains e.born with
     |false=>rfl
     |true=>exact absurd ((fq q dK e.born he5 he4).1 hc) jg
    rw[X9]at XY;simp at XY
   have aX:(execOp a.eval o).run P w=((choose (.mapNext ((if left.isEmpty then #[none]else #[])++left.map some).size)).run P w).andThen fun i w1=>
    (match((if left.isEmpty then #[none]else #[])++left.map some:Array (Option MapEntry))[i]? with
    |some (some e)=>((setObj (C.pl r).Cn (.mapIter (some (C.pl m).Cn) clock (gd.push e.born) clock)).run P w1).andThen fun _ w2=> .ok (Next.value (.tuple #[.bool true,e.key,e.val])) w2
    |some none=> .ok (Next.value (.tuple #[.bool false])) w1
    |none=> .halt (.stuck "Next: no such candidate") w1):=by
    simp only[execOp,ho,Instr.next,hq,Sem.run_bind,Y2,Result.andThen_ok,ry,Ym,rz,hold,en,Array.append_empty,Bool.false_eq_true,if_false];rw[Iz]
    congr 1
    funext i w1
    generalize ((if left.isEmpty=true then #[none]else #[])++Array.map some left)[i]?=qq;rcases qq with _|_|e
    ·rfl
    ·rfl
    ·simp[Iz]
   rw[aX];cases hla:eU seen es with
   |nil=>
    rw[hla]at h;cases h;have X9:left= #[]:=by
     apply Array.ext';cases pf:left.toList with
     |nil=>rfl
     |cons e rest=>
      obtain⟨q,dK,_⟩:=rA e (by rw[←Array.mem_toList_iff,pf];exact Qh ..);rw[hla]at dK;cases dK
    subst X9;refine⟨_,Qp.2 U,C,_,w,?_,Cv.refl hS,.tuple (x:= #[.bool false]) (.one (.bool false))⟩;simp[choose,Sem.run,Question.forced]
   |cons q0 rest=>
    rw[hla]at h;have Xl:=zX (by rw[hla];simp);have zY:left.isEmpty=false:=by
     cases hi:left.isEmpty with
     |false=>rfl
     |true=>exact absurd (by simpa using hi) Xl
    rw[zY];simp only[Bool.false_eq_true,if_false,Array.empty_append,Array.size_map];have pw:0<left.size:=Nat.pos_of_ne_zero fun h0=>Xl (by simpa using h0);obtain⟨k,w1,hk,hkl,hheap,ht1⟩:=pickk _ pw;have aG:left[k]?=some left[k]:=Array.getElem?_eq_getElem hkl;obtain⟨q,dK,jg,hq3,hq4,hq5⟩:=rA left[k] (Array.getElem_mem hkl);cases h;refine⟨_,L0 (by rw[←hla];exact dK),?_⟩;have hx1:w1.heap[(C.pl r).Cn]?=some (.mapIter (some (C.pl m).Cn) clock gd clock):=by rw[hheap];exact hx
    obtain⟨C5,ht⟩:=BR (P:=P) ht1.st hb (.refl C) (fun _ h=>h) rfl rfl (fun k n h=> .inl h) hx1 (by simp)
     (OR.Zt (C:=C) (b:=r) (m:=m) (since:=clock) (WC:=clock) (seen:=seen++[q.2.2]) (arr:=gd.push left[k].born) hdm (fun n hn=>by
      rcases List.mem_append.1 hn with hn|hn
      ·exact hgs n hn
      ·simp only[Qp]at hn;subst hn;exact hq4) (by simp[o6,hq5]) dM)
    refine⟨C,.tuple #[.bool true,left[k].key,left[k].val],_,?_,ht1.trans ht,.tuple (.cons (.bool true) (.cons jg (.one hq3)))⟩;simp only[hk,Result.andThen_ok,Array.getElem?_map,aG,Option.map_some,C5]
  ·cases h
 ·cases h
theorem HI {n:Nat} {e:WV}:∀ {es:List WV},eV n es=some e→e∈es∧e.2.2=n
 |a::l,h=>by
  simp only[eV]at h;cases hq:Nat.beq a.2.2 n with
  |true=>rw[hq]at h;cases h;exact⟨Qh ..,Qb hq⟩
  |false=>
   rw[hq]at h;obtain⟨h1,h2⟩:=HI h;exact⟨Qg _ h1,h2⟩
theorem L9 {n:Nat}:∀ {l:List Nat},qp l=some n→∃r,l=r++[n]
 | [],h=>by cases h
 | [a],h=>by cases h;exact⟨[],rfl⟩
 |a::b::l,h=>by
  obtain⟨r,hr⟩:=L9 (l:=b::l) h;exact⟨a::r,by rw[hr];rfl⟩
theorem rB {o:Oper} {it:Operand} (ho:o.op= .entry it):XN E P o (.look fun T s=>(Cc E it T).bind (kG s)):=by
 intro C T a S w hg hT hS v h;obtain⟨av,cj,h⟩:=Qa.1 h;have hv:=Ay hg hT cj;obtain⟨r,kY,h1⟩:=PG h;subst kY;replace h:=h1;clear h1;generalize hq:a.eval it=q at hv;cases hv with
 |ptr mr=>
 unfold kF at h;split at h
 ·next m since seen WC hb=>
  obtain⟨n,hn,h⟩:=Qa.1 h;obtain⟨hd,x,hx,hr⟩:=hS.live r _ hb;cases hr with
  | @Zt _ _ _ _ gd hdm hgs o6 dM=>
  rw[dM]at hq;have Y2:=AR (P:=P) (w:=w) hx (by simp);unfold oi at h;split at h
  ·next es clock lI=>
   obtain⟨arr,l,hm⟩:=hS.map lI;cases XK:Nat.beq clock WC with
   |false=>rw[XK]at h;cases h
   |true=>
   rw[XK]at h;have h1:=Qb XK;obtain⟨e,he,h⟩:=Qa.1 h;cases h;subst h1;obtain⟨XY,Xp⟩:=HI he;obtain⟨me,jr,g1,g2,g3,g4⟩:=hm.b8.mem XY;have ry:=AR (P:=P) (w:=w) hm.at_ (by simp);obtain⟨pre,gO⟩:=L9 hn;have o8:gd.back?=some (C.gh m n):=by
    have:gd=(pre.map (C.gh m)).toArray.push (C.gh m n):=by apply Array.ext';simp[o6,gO]
    rw[this];simp
   have hfind:arr.find? (fun e=>e.born==C.gh m n)=some me:=by
    cases hf:arr.find? (fun e=>e.born==C.gh m n)with
    |none=>
     have:=Array.find?_eq_none.1 hf me (by rw[←Array.mem_toList_iff];exact hm.perm.mem_iff.1 jr);rw[g4,Xp]at this;simp at this
    |some m'=>
     have h1:=Array.find?_some hf;have h2:m'∈l:=hm.perm.mem_iff.2 (Array.mem_toList_iff.2 (Array.mem_of_find?_eq_some hf));have h3:m'.born=C.gh m n:=by simpa using h1
     rw[BE hm.nodup h2 jr (by rw[h3,g4,Xp])]
   refine⟨.tuple #[me.key,me.val],?_,.tuple (.cons g1 (.one g2))⟩;simp[execOp,ho,Instr.entry,hq,Y2,o8,ry,hfind]
  ·cases h
 ·cases h
end
section
variable {E : Env} {P : Program} (he : CN E P)
include he
omit he in
theorem wh (t:TypeId) (a:Addr) (x y:ByteArray):Builtin.ssaWrapNilChk_ #[t] t #[.pointer (some a),.string x,.string y]=pure (.pointer (some a)):=rfl
theorem La {f g:FuncId} {t:TypeId} {p:Bool} {rc:Recv} (h:br E none f t p=some (g,rc)) {C:Cx} {S:St} {w:World} (hS:Wn C S w) {v r:AV} {x:Value} (hv:VR C v x)
 (hr:aq E S v rc=some r) (wr:Option String):g=f∧∃y,(receiverAt t (.val x) p wr).run P w= .ok y w∧VR C r y:=by
 unfold br at h;split at h
 ·
   split at h
   ·next e hu heq=>
    cases h;simp only[aq,nr]at hr;cases hr;exact⟨rfl,x,by simp[receiverAt,Ak he hu,Place.get],hv⟩
   ·contradiction
   ·contradiction
   ·cases h
 ·split at h
  ·next e hu heq=>
   cases h;simp only[aq,nr,Qe]at hr;obtain⟨a,y,rfl,hl,hy⟩:=HZ (P:=P) he hS hv hr;refine⟨rfl,y,?_,hy⟩;cases wr with
   |none=>simp[receiverAt,Ak he hu,Place.get,asAddr,hl]
   |some nm=>simp[receiverAt,Ak he hu,Place.get,wh,strVal,asAddr,hl]
  ·contradiction
  ·next d lK hu heq=>
   cases h;simp only[aq,nr]at hr;cases hr;refine⟨rfl,x,?_,hv⟩;simp only[receiverAt,Sem.run_bind,Ak he hu,Result.andThen_ok];cases d<;>first|rfl|exact absurd hu (by have:=lK;simp_all)
  ·contradiction
  ·cases h
theorem KZ {f g:FuncId} {t:TypeId} {p:Bool} {rc:Recv} {n:Nat} (h:br E (some n) f t p=some (g,rc)) {C:Cx} {S:St} {w:World} (hS:Wn C S w) {v r:AV} {x:Value} (hv:VR C v x)
 (hr:aq E S v rc=some r) (wr:Option String):g=f∧∃a y,x= .pointer (some a)∧(receiverAt t (.var (a.add n)) p wr).run P w= .ok y w∧VR C r y:=by
 unfold br at h;split at h
 ·split at h
  ·contradiction
  ·next e m hu heq=>
   cases h;cases heq;simp only[aq,nr]at hr;obtain⟨q,hq,hr⟩:=Qa.1 hr;obtain⟨a,rfl,qN⟩:=FN hv hq;obtain⟨a',y,zR,hl,hy⟩:=HZ (P:=P) he hS qN hr;cases zR;exact⟨rfl,a,y,rfl,by simp[receiverAt,Ak he hu,Place.get,hl],hy⟩
  ·next d m lK hu heq=>
   cases h;cases heq;simp only[aq,nr]at hr;obtain⟨q,hq,hr⟩:=Qa.1 hr;cases hr;obtain⟨a,rfl,qN⟩:=FN hv hq;refine⟨rfl,a,_,rfl,?_,qN⟩;simp only[receiverAt,Sem.run_bind,Ak he hu,Result.andThen_ok];cases d<;>first|rfl|exact absurd hu (by have:=lK;simp_all)
  ·cases h
 ·split at h
  ·contradiction
  ·cases h
  ·contradiction
  ·next d m lK hu heq=>
   cases h;cases heq;simp only[aq,nr]at hr;obtain⟨q,hq,hr⟩:=Qa.1 hr;obtain⟨a,rfl,qN⟩:=FN hv hq;obtain⟨a',y,zR,hl,hy⟩:=HZ (P:=P) he hS qN hr;cases zR;refine⟨rfl,a,y,rfl,?_,hy⟩;simp only[receiverAt,Sem.run_bind,Ak he hu,Result.andThen_ok];cases d<;>first|exact hl|exact absurd hu (by have:=lK;simp_all)
  ·cases h
theorem QW {t:TypeId} {i:TypeInfo} (hi:E.tys.get t=some i) {name:String} {m:Method} (hm:i.methods.toList.find? (·.name==name)=some m) (w:World):
 (typeInfo t).run P w= .ok i w∧i.methods.find? (·.name==name)=some m:=
 ⟨BL he hi w,by rw[←hm,Array.find?_toList]⟩
omit he in
theorem Th {st:FieldStep} {q:Nat×TypeId} (h:stepOf E st=some q):∃fields f k,st.deref=true∧C7 E st.struct=some (.struct fields)∧fields[st.index]?=some f∧f.offset=q.1∧f.type=q.2∧
 Am.sizeOf E f.type=some (k+1):=by
 unfold stepOf at h;cases hd:st.deref with
 |false=>rw[hd]at h;cases h
 |true=>
 rw[hd]at h;simp only[cond_true]at h;split at h
 ·next fields hu=>
  obtain⟨f,hf,h⟩:=Qa.1 h;split at h
  ·next k hk=>
   cases h;rw[EP]at hf;exact⟨fields,f,k,rfl,hu,by simpa using hf,rfl,rfl,hk⟩
  ·cases h
 ·cases h
theorem PA {st:FieldStep} {fields:Array Field} {f:Field} {k:Nat} (hd:st.deref=true) (hu:C7 E st.struct=some (.struct fields)) (hf:fields[st.index]?=some f) (hs:Am.sizeOf E f.type=some (k+1))
 (t:TypeId) (a:Addr) (w:World):(follow [st] t (.val (.pointer (some a)))).run P w= .ok (f.type,.var (a.add f.offset)) w:=by
 simp[follow,Ak he hu,hf,hd,Place.get,asAddr,fieldPlace,AM he hs]
theorem Un {t:TypeId} {name:String} {g:FuncId} {rc:Recv} (h:methodOf E t name=some (g,rc)) {C:Cx} {S:St} {w:World} (hS:Wn C S w) {v r:AV} {x:Value} (hv:VR C v x)
 (hr:aq E S v rc=some r) (fuel:Nat):∃y,(method (fuel+1) t x name).run P w= .ok (g,y) w∧VR C r y:=by
 unfold methodOf at h;obtain⟨i,hi,h⟩:=Qa.1 h;obtain⟨m,hm,h⟩:=Qa.1 h;obtain⟨zZ,oZ⟩:=QW he hi hm w;split at h
 ·next f p ft fu=>
  obtain⟨hgf,y,hy,dL⟩:=La he h hS hv hr (if m.path.isEmpty then some ((name.splitOn ".").getLastD name)else none);subst hgf;refine⟨y,?_,dL⟩;unfold method;simp only[Sem.run_bind,zZ,Result.andThen_ok,oZ,ft,follow,Sem.run_pure,fu,hy]
 ·next st f p ft fu=>
  cases hd:st.deref with
  |true=>
   rw[hd]at h;simp only[cond_true]at h;obtain⟨q,hq,h⟩:=Qa.1 h;obtain⟨fields,fl,k,h1,h2,h3,h4,h5,h6⟩:=Th hq;obtain⟨hgf,a,y,rfl,hy,dL⟩:=KZ he h hS hv hr (if m.path.isEmpty then some ((name.splitOn ".").getLastD name)else none);subst hgf;refine⟨y,?_,dL⟩;unfold method;simp only[Sem.run_bind,zZ,Result.andThen_ok,oZ,ft,PA he h1 h2 h3 h6,fu,h4,h5,hy,Sem.run_pure]
  |false=>
   rw[hd]at h;simp only[cond_false]at h;split at h
   ·next pb fields hu=>
    obtain⟨fl,hfl,h⟩:=Qa.1 h;cases gw:iC E fl.type with
    |true=>rw[gw]at h;cases h
    |false=>
    rw[gw]at h;simp only[cond_false]at h;obtain⟨n,hn,h⟩:=Qa.1 h;obtain⟨ag,rD,h⟩:=Qa.1 h;cases h;rw[EP]at hfl;have Aaa:fields[st.index]?=some fl:=by simpa using hfl
    have rE:∃cs y,x= .agg cs∧(part fl.type cs fl.offset).run P w= .ok y w∧VR C r y:=by
     cases rF:ag with
     |true=>
      subst rF;simp only[aq]at hr;cases v<;>try (cases hr;done)
      rename_i cs
      simp only[YW]at hr;cases hv with
      |agg Wk VX=>
      rename_i xs
      obtain⟨l,hl,hr⟩:=Qa.1 hr;cases hq:takeN n l with
      |none=>rw[hq]at hr;cases hr
      |some l'=>
      rw[hq]at hr;cases hr;obtain⟨y,hy,dL⟩:=Ft (P:=P) he rD hn Wk VX (off:=fl.offset) (q:=l') (by unfold cut;rw[hl];exact hq) w;exact⟨xs,y,rfl,hy,dL⟩
     |false=>
      subst rF;simp only[aq]at hr;cases v<;>try (cases hr;done)
      rename_i cs
      simp only[Z8]at hr;cases hv with
      |agg Wk VX=>
      rename_i xs
      obtain⟨y,hy,dL⟩:=Eu (P:=P) he rD Wk hr w;exact⟨xs,y,rfl,hy,dL⟩
    obtain⟨cs,y,rfl,hy,dL⟩:=rE;refine⟨y,?_,dL⟩;have Aab:∃d,C7 E fl.type=some d∧∀e,d≠ .pointer e:=by
     unfold Am.isAgg at rD;cases eD:C7 E fl.type with
     |none=>rw[eD]at rD;simp at rD
     |some d=>
      refine⟨d,rfl,?_⟩;rintro e rfl;simp[iC,eD]at gw
    obtain⟨d,mr,lK⟩:=Aab;have hrecv:∀wr,(receiverAt fl.type (.val y) false wr).run P w= .ok y w:=by
     intro wr;simp only[receiverAt,Sem.run_bind,Ak he mr,Result.andThen_ok];cases d<;>first|rfl|exact absurd rfl (lK _)
    unfold method;simp only[Sem.run_bind,zZ,Result.andThen_ok,oZ,ft,follow,Ak he hu,Aaa,hd,Bool.false_eq_true,if_false,hy,Sem.run_pure,fu,hrecv]
   ·cases h
 ·cases h
omit he in
theorem LP (P:Program):∃k,P.types.size+Made.depth=k+1:=⟨P.types.size+99,rfl⟩
omit he in
theorem Gb {C:Cx} {v:AV} {x:Value} (h:kJ v=true) (hv:VR C v x):∃a,x= .pointer (some a):=by
 cases hv with
 |ptr _=>exact⟨_,rfl⟩
 |WO _ _ _ _=>exact⟨_,rfl⟩
 |_=>simp[kJ]at h
theorem Pm {t:TypeId} {name:String} {v:AV} (h:ZK v (methodOf E t name)=true) {C:Cx} {w:World} {x:Value} (hv:VR C v x) (fuel:Nat):
 (nilAhead (fuel+1) t x name).run P w= .ok (some false) w:=by
 cases lI:methodOf E t name with
 |none=>rw[lI]at h;simp[ZK]at h
 |some q=>
 obtain⟨g,rc⟩:=q;rw[lI]at h;unfold methodOf at lI;obtain⟨i,hi,gR⟩:=Qa.1 lI;obtain⟨m,hm,Zj⟩:=Qa.1 gR;clear lI gR;obtain⟨zZ,oZ⟩:=QW he hi hm w;have tail:∀ {xt:TypeId} {d:TypeDesc} (y:Option Value),C7 E xt=some d→((∀e,d≠ .pointer e)∨∃a,y=some (.pointer (some a)))→
  ((do
   match←underlying xt,y with
   | .pointer _,some (.pointer none)=>pure (some true)
   | .pointer _,some _=>pure (some false)
   | .pointer _,none=>pure none
   |_,_=>pure (some false)):Sem (Option Bool)).run P w= .ok (some false) w:=by
  intro xt d y hu hy;simp only[Sem.run_bind,Ak he hu,Result.andThen_ok];rcases hy with hy|⟨a,rfl⟩
  ·cases d<;>first|rfl|exact absurd rfl (hy _)
  ·cases d<;>rfl
 split at Zj
 ·next f p ft fu=>
  unfold nilAhead;simp only[Sem.run_bind,zZ,Result.andThen_ok,oZ,ft,followBlind,Sem.run_pure,fu];cases p with
  |true=>rfl
  |false=>
   unfold br at Zj;simp only at Zj;split at Zj
   ·next e hu heq=>
    cases Zj;obtain⟨a,rfl⟩:=Gb h hv;exact tail _ hu (.inr ⟨a,rfl⟩)
   ·contradiction
   ·next d lK hu heq=>exact tail _ hu (.inl fun e hd=>by subst hd;have:=lK;simp_all)
   ·contradiction
   ·cases Zj
 ·next st f p ft fu=>
  cases hd:st.deref with
  |true=>
   rw[hd]at Zj;simp only[cond_true]at Zj;obtain⟨q,hq,Zj⟩:=Qa.1 Zj;obtain⟨fields,fl,k,h1,h2,h3,h4,h5,h6⟩:=Th hq;have hx:∃a,x= .pointer (some a):=by
    unfold br at Zj;cases p with
    |true=>
     simp only at Zj;split at Zj
     ·contradiction
     ·cases Zj;exact Gb h hv
     ·cases Zj;exact Gb h hv
     ·cases Zj
    |false=>
     simp only at Zj;split at Zj
     ·contradiction
     ·cases Zj
     ·contradiction
     ·cases Zj;exact Gb h hv
     ·cases Zj
   obtain⟨a,rfl⟩:=hx;unfold nilAhead;simp only[Sem.run_bind,zZ,Result.andThen_ok,oZ,ft,followBlind,Ak he h2,h3,h1,Sem.run_pure,fu];cases p with
   |true=>rfl
   |false=>
    unfold br at Zj;simp only at Zj;split at Zj
    ·contradiction
    ·cases Zj
    ·contradiction
    ·next d m lK hu heq=>
     rw[h5];exact tail _ hu (.inl fun e hd=>by subst hd;have:=lK;simp_all)
    ·cases Zj
  |false=>
   rw[hd]at Zj;simp only[cond_false]at Zj;split at Zj
   ·next pb fields hu=>
    obtain⟨fl,hfl,Zj⟩:=Qa.1 Zj;cases gw:iC E fl.type with
    |true=>rw[gw]at Zj;cases Zj
    |false=>
    rw[gw]at Zj;simp only[cond_false]at Zj;obtain⟨n,hn,Zj⟩:=Qa.1 Zj;obtain⟨ag,rD,Zj⟩:=Qa.1 Zj;cases Zj;rw[EP]at hfl;have Aaa:fields[st.index]?=some fl:=by simpa using hfl
    have rE:∃cs y,x= .agg cs∧(part fl.type cs fl.offset).run P w= .ok y w:=by
     cases rF:ag with
     |true=>
      subst rF;simp only[ZK]at h;cases v<;>try (cases h;done)
      rename_i cs
      simp only[YW]at h;cases hv with
      |agg Wk VX=>
      rename_i xs
      cases hl:WM fl.offset cs with
      |none=>rw[hl]at h;cases h
      |some l=>
      rw[hl]at h;simp only[Qe]at h;cases hq:takeN n l with
      |none=>rw[hq]at h;cases h
      |some l'=>
      obtain⟨y,hy,dL⟩:=Ft (P:=P) he rD hn Wk VX (off:=fl.offset) (q:=l') (by unfold cut;rw[hl];exact hq) w;exact⟨xs,y,rfl,hy⟩
     |false=>
      subst rF;simp only[ZK]at h;cases v<;>try (cases h;done)
      rename_i cs
      simp only[Z8]at h;cases hv with
      |agg Wk VX=>
      rename_i xs
      cases hq:nth cs fl.offset with
      |none=>rw[hq]at h;cases h
      |some u=>
      obtain⟨y,hy,dL⟩:=Eu (P:=P) he rD Wk hq w;exact⟨xs,y,rfl,hy⟩
    obtain⟨cs,y,rfl,hy⟩:=rE;have Aab:∃d,C7 E fl.type=some d∧∀e,d≠ .pointer e:=by
     unfold Am.isAgg at rD;cases eD:C7 E fl.type with
     |none=>rw[eD]at rD;simp at rD
     |some d=>
      refine⟨d,rfl,?_⟩;rintro e rfl;simp[iC,eD]at gw
    obtain⟨d,mr,lK⟩:=Aab;unfold nilAhead;simp only[Sem.run_bind,zZ,Result.andThen_ok,oZ,ft,followBlind,Ak he hu,Aaa,hd,hy,Sem.run_pure,fu];simp only[Ak he mr,Result.andThen_ok];cases d<;>first|rfl|exact absurd rfl (lK _)
   ·cases Zj
 ·cases Zj
theorem Ph {o:Oper} {x:Operand} (ho:o.op= .nilCheck x):XN E P o (.pure fun T=>(Cc E x T).bind (lZ E)):=by
 intro C T a S w hg hT hS v h;obtain⟨av,cj,h⟩:=Qa.1 h;have hv:=Ay hg hT cj;have plain:∀y,a.eval x=y→(∀n f c,y≠ .func (.method n) f c)→y≠ .pointer none→y≠ .nilIface→y≠ .nilFunc→(execOp a.eval o).run P w= .ok (.value y) w:=by
  intro y hy h1 h2 h3 h4;simp only[execOp,ho,hy];first|rfl|(split<;>first|(exfalso;first|exact h2 rfl|exact h3 rfl|exact h4 rfl|exact h1 _ _ _ rfl)|rfl)
 generalize hq:a.eval x=q at hv;unfold lZ at h;split at h
 ·cases h;cases hv with
  |ptr hd=>exact⟨_,plain _ hq (by simp) (by simp) (by simp) (by simp),.ptr hd⟩
 ·cases h;cases hv with
  |WO hm ha Wk hc=>exact⟨_,plain _ hq (by simp) (by simp) (by simp) (by simp),.WO hm ha Wk hc⟩
 ·cases h;cases hv with
  |func hf ha hb=>exact⟨_,plain _ hq (by simp) (by simp) (by simp) (by simp),.func hf ha hb⟩
 ·cases h;cases hv with
  |func hf ha hb=>exact absurd rfl (hf _)
  |yield hd=>exact⟨_,plain _ hq (by simp) (by simp) (by simp) (by simp),.yield hd⟩
 ·next name fa ca=>
  cases WX:iD E name fa with
  |false=>rw[WX]at h;cases h
  |true=>
  rw[WX]at h;cases h;unfold iD at WX;split at WX
  ·next t u=>
   cases hv with
   |func hf ha hb=>
   rename_i xs ys
   cases ZQ:xs.toList with
   |nil=>rw[ZQ]at ha;cases ha
   |cons z zs=>
   rw[ZQ]at ha;cases ha with
   |cons hz htl=>
   cases hz with
   |iface hu=>
   cases htl;have hxs0:xs[0]?=xs.toList.head?:=by rw[List.head?_eq_getElem?,Array.getElem?_toList]
   rw[ZQ,List.head?_cons]at hxs0;obtain⟨k,hk⟩:=LP P;refine⟨.func (.method name) xs ys,?_,.func (x:=xs) (y:=ys) hf (by rw[ZQ];exact .one (.iface hu)) hb⟩;simp[execOp,ho,hq,hxs0,hk,Pm he WX hu]
  ·cases WX
 ·cases h;cases hv with
  |iface hu=>exact⟨_,plain _ hq (by simp) (by simp) (by simp) (by simp),.iface hu⟩
 ·cases h
end
section
variable {E : Env} {P : Program} (he : CN E P)
include he
theorem Ff {f:FuncId} (h:CI E f=true) (args:Array Value) (w:World):(callFunc f args).run P w= .ok (.enter f args) w:=by
 unfold CI at h;split at h
 ·next fn hf=>
  have hp:=he.fn f fn hf;split at h
  ·next b hb=>
   have hl:=he.lone f fn hf;have gK:¬fn.name= "runtime.NumGoroutine" :=by simpa using hl
   simp[callFunc,hp,gK,hb]
  ·cases h
 ·cases h
theorem If {C:Cx} {S:St} {w:World} (hS:Wn C S w) {name:String} {args rest:List AV} {v:AV} {f:FuncId} {x:Value} {xs:List Value} (hv:VR C v x) (ha:VS C args xs)
 (h:Z4 E S name args v=some (f,rest)):∃ys,(callMethod x name xs.toArray).run P w= .ok (.enter f ys) w∧VS C rest ys.toList:=by
 unfold Z4 at h;split at h
 ·next t u=>
  obtain⟨m,hm,h⟩:=Qa.1 h;cases hb:CI E m.1 with
  |false=>rw[hb]at h;cases h
  |true=>
  rw[hb]at h;simp only[cond_true]at h;obtain⟨r,hr,h⟩:=Qa.1 h;cases h;cases hv with
  |iface hu=>
  obtain⟨k,hk⟩:=LP P;obtain⟨y,hy,dL⟩:=Un he (t:=t) (name:=name) (g:=m.1) (rc:=m.2) hm hS hu hr k;refine⟨#[y]++xs.toArray,?_,by simpa using VS.cons dL ha⟩;simp only[callMethod,Sem.run_bind];have:(program).run P w= .ok P w:=rfl;simp only[this,Result.andThen_ok,hk,hy,Ff he hb]
 ·cases h
omit he in
theorem Gi (c:Call) (ρ:Operand→Value):c.args.map ρ=(c.args.toList.map ρ).toArray:=by apply Array.ext';simp
theorem Pk {o:Oper} {c:Call} {f:FuncId} (ho:o.op= .call c) (hc:c.callee= .value (.func f)) (hb:CI E f=true):
 XN E P o (.call fun T _=>(CO E c.args.toList T).bind fun args=>some (f,args)):=by
 intro C T a S w hg hT hS g args h;obtain⟨as,has,h⟩:=Qa.1 h;cases h;refine⟨(c.args.toList.map a.eval).toArray,?_,by simpa using EC hg hT has⟩;simp only[execOp,ho,resolve,hc,Act.eval,Deferred.ofValue,Sem.run_bind,Sem.run_pure,Result.andThen_ok,invoke,Array.empty_append,Array.append_empty];rw[Gi,Ff he hb]
omit he in
theorem rG {o:Oper} {c:Call} {x:Operand} (ho:o.op= .call c) (hc:c.callee= .value x):XN E P o (.ZB (Cc E x) (CO E c.args.toList)):=by
 intro C T a S w hg hT hS g args h1 h2;refine⟨a.eval x,(c.args.toList.map a.eval).toArray,Ay hg hT h1,by simpa using EC hg hT h2,?_⟩;simp only[execOp,ho,resolve,hc];rw[Gi]
theorem TY {o:Oper} {c:Call} {r:Operand} {name:String} (ho:o.op= .call c) (hc:c.callee= .invoke r name):
 XN E P o (.call fun T s=>(CO E c.args.toList T).bind fun args=>(Cc E r T).bind (Z4 E s name args)):=by
 intro C T a S w hg hT hS g args h;obtain⟨as,has,h⟩:=Qa.1 h;obtain⟨v,hv,h⟩:=Qa.1 h;obtain⟨ys,hy,dL⟩:=If he hS (Ay hg hT hv) (EC hg hT has) h;refine⟨ys,?_,dL⟩;simp only[execOp,ho,resolve,hc,Sem.run_bind,Sem.run_pure,Result.andThen_ok,invoke,Gi];have h0:(#[a.eval r]++(c.args.toList.map a.eval).toArray)[0]?=some (a.eval r):=by simp
 have h1:(#[a.eval r]++(c.args.toList.map a.eval).toArray).extract 1 (#[a.eval r]++(c.args.toList.map a.eval).toArray).size=(c.args.toList.map a.eval).toArray:=by
  apply Array.ext';simp only[Array.toList_extract,Array.toList_append,List.toList_toArray,Array.size_append];simp;rw[List.take_of_length_le (by simp)]
 simp only[h0,h1];exact hy
omit he in
theorem rH {o:Oper} {c:Call} (ho:o.op= .defer c):XN E P o (ed E c):=by
 unfold ed;split
 ·next x hc=>
  intro C T a S w hg hT hS d h;obtain⟨f,hf,h⟩:=Qa.1 h;obtain⟨as,has,h⟩:=Qa.1 h;have hv:=Ay hg hT hf;cases f with
  |func fn fa ca=>
   simp only[fQ]at h;cases hy:dk fn with
   |true=>rw[hy]at h;cases h
   |false=>
   rw[hy]at h;cases h;generalize hq:a.eval x=q at hv;cases hv with
   |yield hd=>cases hy
   |func kZ ha hb=>
   rename_i xs ys
   refine⟨⟨.fn fn ys,xs++(c.args.toList.map a.eval).toArray⟩,?_,.fn kZ (by simpa using ha.append (EC hg hT has)) hb⟩;simp only[execOp,ho,resolve,hc,hq,Deferred.ofValue,Sem.run_bind,Sem.run_pure,Result.andThen_ok,Gi]
  |_=>simp[fQ]at h
 ·exact A5
omit he in
theorem RZ {o:Oper} {c:Call} (ho:o.op= .call c) (hc:c.callee= .builtin .recover):XN E P o .recover:=by
 intro C T a S w hg hT hS;simp[execOp,ho,resolve,hc,invoke,builtin]
omit he in
theorem PB {f:AV→AV→Option AV} {G:Value→Value→Sem Value} (hf:∀(C:Cx) (w:World) v u y z r,VR C v y→VR C u z→f v u=some r→∃q,(G y z).run P w= .ok q w∧VR C r q) {C:Cx} {w:World}:
 ∀ {l:List AV} {xs:List Value} {v r:AV} {x:Value},VS C l xs→VR C v x→lX f l v=some r→∃q,(xs.foldlM G x).run P w= .ok q w∧VR C r q
 |_,_,v,r,x,.nil,hv,h=>by cases h;exact⟨x,rfl,hv⟩
 |_::_,_,v,r,x,.cons h1 t,hv,h=>by
  simp only[lX]at h;obtain⟨z,hz,h⟩:=Qa.1 h;obtain⟨q,hq,hr⟩:=hf C w _ _ _ _ z hv h1 hz;obtain⟨q',hq',b9⟩:=PB hf (w:=w) t hr h;exact⟨q',by simp only[List.foldlM_cons,Sem.run_bind,hq,Result.andThen_ok,hq'],b9⟩
omit he in
theorem Aac {o:Oper} {c:Call} {xs:List Operand} (ho:o.op= .call c) (hc:c.callee= .builtin .max) (ZQ:c.args.toList=xs):XN E P o (vB E og xs):=by
 cases xs with
 |nil=>exact A5
 |cons x l=>
  intro C T a S w hg hT hS v h;obtain⟨u,hu,h⟩:=Qa.1 h;obtain⟨r,hr,h⟩:=Qa.1 h;obtain⟨q,hq,hvq⟩:=PB (P:=P) (f:=og) (G:=Builtin.max2) (fun C w v u y z r hv hu h=>by
   unfold og at h;split at h
   ·cases h;cases hv;cases hu;exact⟨_,rfl,.int _ _⟩
   ·cases h) (w:=w) (EC hg hT hr) (Ay hg hT hu) h
  refine⟨q,?_,hvq⟩;simp only[execOp,ho,resolve,hc,Sem.run_bind,Sem.run_pure,Result.andThen_ok,invoke,builtin,Builtin.max_,Gi,ZQ,List.map_cons,hq]
omit he in
theorem Aad {o:Oper} {c:Call} {xs:List Operand} (ho:o.op= .call c) (hc:c.callee= .builtin .min) (ZQ:c.args.toList=xs):XN E P o (vB E lW xs):=by
 cases xs with
 |nil=>exact A5
 |cons x l=>
  intro C T a S w hg hT hS v h;obtain⟨u,hu,h⟩:=Qa.1 h;obtain⟨r,hr,h⟩:=Qa.1 h;obtain⟨q,hq,hvq⟩:=PB (P:=P) (f:=lW) (G:=Builtin.min2) (fun C w v u y z r hv hu h=>by
   unfold lW at h;split at h
   ·cases h;cases hv;cases hu;exact⟨_,rfl,.int _ _⟩
   ·cases h) (w:=w) (EC hg hT hr) (Ay hg hT hu) h
  refine⟨q,?_,hvq⟩;simp only[execOp,ho,resolve,hc,Sem.run_bind,Sem.run_pure,Result.andThen_ok,invoke,builtin,Builtin.min_,Gi,ZQ,List.map_cons,hq]
end
structure Y6 (E:Env) (P:Program):Prop where
 ext:E.ext=true→∀ {o:Oper} {c:Call} {f:FuncId},o.op= .call c→c.callee= .value (.func f)→CI E f=false→XN E P o (eY E f (nameOf E f) c.args.toList)
 data:E.ext=true→∀ {o:Oper} {c:Call} {x:Operand},o.op= .call c→c.callee= .builtin .unsafeSliceData→c.args.toList=[x]→XN E P o (oo E o.type x)
 str:E.ext=true→∀ {o:Oper} {c:Call} {t:TypeId} {ts:List TypeId} {x y:Operand},o.op= .call c→c.callee= .builtin .unsafeString→c.argTypes.toList=t::ts→c.args.toList=[x,y]→XN E P o (gY E t x y)
section
variable {E : Env} {P : Program} (he : CN E P) (hx : Y6 E P)
include he hx
theorem Si {o:Oper} {c:Call} {b:Builtin} (ho:o.op= .call c) (hc:c.callee= .builtin b):XN E P o (eZ E o.type b c.argTypes.toList c.args.toList):=by
 unfold eZ;split
 ·next h1 h2=>exact Ug he ho hc h1 h2
 ·next h1 h2=>exact zL he ho hc (by rw[h1];rfl) h2
 ·next h1 h2=>exact zM he ho hc (by rw[h1];rfl) h2
 ·next h1 h2=>exact wg he ho hc h1 h2
 ·next h1 h2=>exact Ue he ho hc h1 h2
 ·next h1 h2=>exact rk he ho hc h1 h2
 ·next h2=>
  cases he:E.ext with
  |true=>exact hx.data he ho hc h2
  |false=>exact A5
 ·next h1 h2=>
  cases he:E.ext with
  |true=>exact hx.str he ho hc h1 h2
  |false=>exact A5
 ·exact Aac ho hc U
 ·exact Aad ho hc U
 ·exact RZ ho hc
 ·exact A5
theorem wj {o:Oper} {c:Call} (ho:o.op= .call c):XN E P o (VV E o.type c):=by
 unfold VV;split
 ·next b hc=>exact Si he hx ho hc
 ·next f hc=>
  cases hb:CI E f with
  |true=>exact Pk he ho hc hb
  |false=>
   cases he:E.ext with
   |true=>exact hx.ext he ho hc hb
   |false=>exact A5
 ·next x _ hc=>exact rG ho hc
 ·next r name hc=>exact TY he ho hc
theorem o9 (o:Oper):XN E P o (Xg E o.type o.op):=by
 unfold Xg;split
 ·next h=>exact TW (.inl h)
 ·next h=>exact TW (.inr h)
 ·next h=>exact vH h
 ·next h=>exact qC he h
 ·next h=>exact z9 h
 ·next h=>exact qD he h
 ·next h=>exact Mq he h
 ·next h=>exact vJ he h
 ·next h=>exact qH he h
 ·next h=>exact Ph he h
 ·next h=>exact zJ he h
 ·next h=>exact vL h
 ·next h=>exact vZ he h
 ·next h=>exact N9 he h
 ·next h=>exact Pj h
 ·next h=>exact Sc he h
 ·next h=>exact N8 he h
 ·next h=>exact ok_slice he h
 ·next h=>exact NB he h
 ·next h=>exact qE he h
 ·next h=>exact NA he h
 ·next h=>exact qG he h
 ·next h=>exact TX he h
 ·next h=>exact N7 he (.inl h)
 ·next h=>exact N7 he (.inr h)
 ·next h=>exact Pi he h
 ·next h=>exact Mp h
 ·next h=>exact ru he h
 ·next it isString h=>
  cases isString with
  |true=>exact Sa h
  |false=>exact Sb h
 ·next h=>exact rB h
 ·next h=>exact Uf he h
 ·next h=>exact Se h
 ·next h=>exact wj he hx h
 ·next h=>exact rH h
 ·next h=>exact qI h
 ·exact A5
end
end Am
