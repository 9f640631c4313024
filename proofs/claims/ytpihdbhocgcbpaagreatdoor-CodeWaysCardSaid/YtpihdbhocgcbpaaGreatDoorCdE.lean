/- Code: ways: registers, steps. -/
import Derived.Test.YtpihdbhocgcbpaaGreatDoorCdA
import Derived.Test.YtpihdbhocgcbpaaGreatDoorCdC
import Derived.Test.YtpihdbhocgcbpaaGreatDoorCdD
set_option linter.unusedSectionVars false
set_option linter.unusedVariables false
set_option linter.unusedSimpArgs false
open Go Am
namespace Go.Proofs.YtpihdbhocgcbpaaGreatDoor
inductive Zz where
 |O (r:Nat)
 |J (op n:Int) (kids:List Zz)
mutual
def We:Zz->Nat
 | .O _=>1
 | .J _ _ ks=>WD ks+1
def WD:List Zz->Nat
 | []=>0
 |t::ts=>We t+WD ts
end
mutual
def gP:Zz->Nat
 | .O _=>1
 | .J _ _ ks=>cO ks+1
def cO:List Zz->Nat
 | []=>0
 |t::ts=>max (gP t) (cO ts)
end
def X6 (nm:List Nat) (r:Nat):List Nat:=if r∈nm then nm else nm++[r]
mutual
def CC:Zz->List Nat->Cp×List Nat
 | .O r,nm=>(.mk 1 (nm.idxOf r:Nat) [],X6 nm r)
 | .J o n ks,nm=>(.mk o n (Cf ks nm).1,(Cf ks nm).2)
def Cf:List Zz->List Nat->List Cp×List Nat
 | [],nm=>([],nm)
 |t::ts,nm=>((CC t nm).1::(Cf ts (CC t nm).2).1,(Cf ts (CC t nm).2).2)
end
mutual
def nK:Zz->Int->Int->List Nat->Option (Cp×Int×List Nat)
 | .O r,l,d,nm=>if 0<=l-1/\0<d then(if((nm.idxOf r:Nat):Int)<20 then some (.mk 1 (nm.idxOf r:Nat) [],l-1,X6 nm r)else none)else none
 | .J o n ks,l,d,nm=>if 0<=l-1/\0<d then(match eh ks (l-1) (d-1) nm with
  |none=>none
  |some (k,l2,mU)=>some (.mk o n k,l2,mU))else none
def eh:List Zz->Int->Int->List Nat->Option (List Cp×Int×List Nat)
 | [],l,_,nm=>some ([],l,nm)
 |t::ts,l,d,nm=>match nK t l d nm with
  |none=>none
  |some (k,l2,mU)=>match eh ts l2 d mU with
   |none=>none
   |some (ks,l3,nm3)=>some (k::ks,l3,nm3)
end
variable {con f n:Int} {cs fs:List Cw} {S:List Int} {a b mU nm:List Nat} {ZS:List Zz} {k r:Nat} {rhs t:Zz}
theorem R5 (nm:List Nat) (r:Nat):nm.length<=(X6 nm r).length:=by
 unfold X6;split
 .exact Qj _
 .grind
theorem Kf (h:nm.length<=20):(((nm.idxOf r:Nat):Int)<20)↔(X6 nm r).length<=20:=by grind [List.idxOf_eq_length,Qm,List.length_singleton,X6,List.idxOf_lt_length_of_mem]
mutual
theorem Mw:∀(t:Zz) (nm:List Nat),nm.length<=(CC t nm).2.length
 | .O r,nm=>by rw[CC];exact R5 nm r
 | .J o n ks,nm=>by rw[CC];exact GQ ks nm
theorem GQ:∀(ts:List Zz) (nm:List Nat),nm.length<=(Cf ts nm).2.length
 | [],nm=>by rw[Cf];exact Qj _
 |t::ts,nm=>by rw[Cf];exact Nat.le_trans (Mw t nm) (GQ ts _)
end
mutual
theorem Lc:∀(t:Zz) (nm:List Nat),eC (CC t nm).1=We t
 | .O r,nm=>by rw[CC,eC,aM,We]
 | .J o n ks,nm=>by rw[CC,eC,We,Jt ks nm]
theorem Jt:∀(ts:List Zz) (nm:List Nat),aM (Cf ts nm).1=WD ts
 | [],nm=>by rw[Cf,aM,WD]
 |t::ts,nm=>by rw[Cf,aM,WD,Lc t nm,Jt ts _]
end
mutual
theorem Le:∀(t:Zz) (nm:List Nat),Xg (CC t nm).1=gP t
 | .O r,nm=>by rw[CC,Xg,X9,gP]
 | .J o n ks,nm=>by rw[CC,Xg,gP,Ju ks nm]
theorem Ju:∀(ts:List Zz) (nm:List Nat),X9 (Cf ts nm).1=cO ts
 | [],nm=>by rw[Cf,X9,cO]
 |t::ts,nm=>by rw[Cf,X9,cO,Le t nm,Ju ts _]
end
mutual
theorem Ue:∀(t:Zz) (l d:Int) (nm:List Nat),nm.length<=20->nK t l d nm=if(We t:Int)<=l/\(gP t:Int)<=d/\(CC t nm).2.length<=20 then some ((CC t nm).1,l-We t,(CC t nm).2)else none
 | .O r,l,d,nm,h=>by grind [nK,We,gP,CC,Kf]
 | .J o n ks,l,d,nm,h=>by
  rw[nK,We,gP,CC];by_cases h1:0<=l-1/\0<d
  .rw[if_pos h1,Pv ks (l-1) (d-1) nm h h1.1 (by omega)];by_cases h2:(WD ks:Int)<=l-1/\(cO ks:Int)<=d-1/\(Cf ks nm).2.length<=20
   .grind
   .grind
  .grind
theorem Pv:∀(ts:List Zz) (l d:Int) (nm:List Nat),nm.length<=20->0<=l->0<=d->eh ts l d nm=if(WD ts:Int)<=l/\(cO ts:Int)<=d/\(Cf ts nm).2.length<=20 then some ((Cf ts nm).1,l-WD ts,(Cf ts nm).2)else none
 | [],l,d,nm,h,hl,hd=>by grind [eh,WD,cO,Cf]
 |t::ts,l,d,nm,h,hl,hd=>by
  rw[eh,WD,cO,Cf,Ue t l d nm h];by_cases h1:(We t:Int)<=l/\(gP t:Int)<=d/\(CC t nm).2.length<=20
  .rw[if_pos h1];dsimp only;rw[Pv ts _ d _ h1.2.2 (by omega) hd];by_cases h2:(WD ts:Int)<=l-We t/\(cO ts:Int)<=d/\(Cf ts (CC t nm).2).2.length<=20
   .grind
   .grind
  .grind [Nat.le_trans,GQ]
end
def fF (cs fs:List Cw) (t:Zz) (nm:List Nat):Prop:=(CC t nm).2.length<=20/\Xt cs fs (CC t nm).1=true
theorem HK (h:Xt cs fs (CC t nm).1=true):We t<=40/\gP t<=12:=by
 unfold Xt at h;rw[Qf,decide_eq_true_iff,(IM _ 40 12).1,Lc,Le]at h;omega
theorem Ua (hn:nm.length<=20) (h:fF cs fs t nm):∃l,nK t 40 12 nm=some ((CC t nm).1,l,(CC t nm).2):=by
 obtain⟨h1,h2⟩:=h;obtain⟨h3,h4⟩:=HK h2;exact⟨_,by rw[Ue t 40 12 nm hn,if_pos ⟨by omega,by omega,h1⟩]⟩
theorem TZ (hn:nm.length<=20) {k:Cp} {l:Int} (h:nK t 40 12 nm=some (k,l,mU)):k=(CC t nm).1/\mU=(CC t nm).2/\mU.length<=20/\We t<=40/\gP t<=12:=by grind [Ue,CC]
def YA (cs fs:List Cw) (f:Int) (ZS:List Zz) (fr:List Nat) (rhs:Zz):Option eB:=
 if(CC rhs (fr.foldl X6 (Cf ZS []).2)).2.length<=20/\Xt cs fs (CC rhs (fr.foldl X6 (Cf ZS []).2)).1=true/\(Cf ZS []).1.all (Xt cs fs)=true then
  some ⟨f,(Cf ZS []).1,(CC rhs (fr.foldl X6 (Cf ZS []).2)).1,((CC rhs (fr.foldl X6 (Cf ZS []).2)).2.length:Nat)⟩else none
theorem JJ:∀(fr nm:List Nat),nm.length<=(fr.foldl X6 nm).length
 | [],nm=>Qj _
 |r::fr,nm=>Nat.le_trans (R5 nm r) (JJ fr (X6 nm r))
theorem E5:∀(a b:List Zz) (nm:List Nat),Cf (a++b) nm=((Cf a nm).1++(Cf b (Cf a nm).2).1,(Cf b (Cf a nm).2).2)
 | [],b,nm=>by rw[Cf];rfl
 |t::a,b,nm=>by simp_all [Cf,E5]
theorem BU:∀(ts:List Zz) (nm:List Nat),(Cf ts nm).1.length=ts.length
 | [],nm=>by rw[Cf];rfl
 |t::ts,nm=>by rw[Cf,List.length_cons,List.length_cons,BU ts]
theorem La (t:Zz) (nm:List Nat):Cf [t] nm=([(CC t nm).1],(CC t nm).2):=by rw[Cf,Cf]
theorem Sg {a b:List Zz} {fr:List Nat} (h:¬fF cs fs t (Cf a []).2):YA cs fs f (a++t::b) fr rhs=none:=by
 unfold YA;rw[if_neg];rintro⟨h1,h2,h3⟩;refine h ⟨?_,?_⟩
 .grind [E5,Cf,Nat.le_trans,JJ,Mw,GQ]
 .simp_all [E5,Cf,List.all_append,Qf,List.all_cons]
theorem Pt (h:20<(a.foldl X6 (Cf ZS []).2).length):YA cs fs f ZS (a++b) rhs=none:=by grind [YA,Cf,JJ,Mw]
theorem Sf {fr:List Nat} (h:¬fF cs fs rhs (fr.foldl X6 (Cf ZS []).2)):YA cs fs f ZS fr rhs=none:=by
 unfold YA;rw[if_neg];rintro⟨h1,h2,-⟩;exact h ⟨h1,h2⟩
structure C8 where
 c:Bool
 a:Bool
 b:Bool
 op:Int
 n:Int
 args:List Int
def C8.g:C8:=⟨false,false,false,0,0,[]⟩
structure tY (l:List C8) (i:Nat) (r:C8):Prop where
 op:r.op=0↔r.b=false/\(r.a=false\/r.c=true)
 f:r.a=false->∀a∈r.args,(i:Int)<a/\∃h:a.toNat<l.length,l[a.toNat].a=false
 e:r.a=true->∀a∈r.args,0<=a/\a<i
 c:r.op=0->r.args=[]
 b:r.c=true->r.a=true
 d:r.args.length<=4000
def Yf (l:List C8):Prop:=∀i (h:i<l.length),tY l i l[i]
mutual
def Is (l:List C8):Zz->Nat->Prop
 | .O k,r=>k=r/\∃h:r<l.length,l[r].op=0
 | .J o n ts,r=>∃h:r<l.length,l[r].op≠0/\o=l[r].op/\n=l[r].n/\oS l ts l[r].args
def oS (l:List C8):List Zz->List Int->Prop
 | [],zl=>zl=[]
 |t::ts,zl=>∃(k:Nat) (zs1:List Int),zl=(k:Int)::zs1/\Is l t k/\oS l ts zs1
end
mutual
theorem UG {l:List C8}:∀ {t u:Zz} {r:Nat},Is l t r->Is l u r->t=u
 | .O k,.O m,r,h1,h2=>by rw[Is]at h1;rw[Is]at h2;rw[h1.1,h2.1]
 | .O k,.J o n ts,r,h1,h2=>by grind [Is]
 | .J o n ts,.O k,r,h1,h2=>by grind [Is]
 | .J o n ts,.J o' n' us,r,h1,h2=>by
  rw[Is]at h1;rw[Is]at h2;obtain⟨h,_,rfl,rfl,e3⟩:=h1;obtain⟨h',_,rfl,rfl,e3'⟩:=h2;rw[UF e3 e3']
theorem UF {l:List C8}:∀ {ts us:List Zz} {zl:List Int},oS l ts zl->oS l us zl->ts=us
 | [],[],_,_,_=>rfl
 | [],u::us,zl,h1,h2=>by grind [oS]
 |t::ts,[],zl,h1,h2=>by grind [oS]
 |t::ts,u::us,zl,h1,h2=>by
  rw[oS]at h1;rw[oS]at h2;obtain⟨k,zs1,rfl,e2,e3⟩:=h1;obtain⟨k',zs2,e,e2',e3'⟩:=h2;rw[List.cons.injEq]at e;obtain⟨e4,rfl⟩:=e;obtain rfl:k=k':=by omega
  rw[UG e2 e2',UF e3 e3']
end
theorem yR {l:List C8}:∀ {zl:List Int},(∀a∈zl,0<=a/\∃t,Is l t a.toNat)->∃ts,oS l ts zl
 | [],_=>⟨[],by rw[oS]⟩
 |a::zl,h=>by
  obtain⟨ts,fT⟩:=yR fun b hb=>h b (Qg _ hb);obtain⟨h0,t,ht⟩:=h a (Qh ..);exact⟨t::ts,by rw[oS];exact⟨a.toNat,zl,by rw[Int.toNat_of_nonneg h0],ht,fT⟩⟩
def gi (l:List C8) (i:Nat):Nat:=if(l.getD i C8.g).a then l.length+i else l.length-i
theorem N5 {l:List C8} {i:Nat} (h:i<l.length) (hm:l[i].a=true):gi l i=l.length+i:=by unfold gi;rw[Ao h,if_pos hm]
theorem Mm {l:List C8} {i:Nat} (h:i<l.length) (hm:l[i].a=false):gi l i=l.length-i:=by unfold gi;rw[Ao h,hm];rfl
theorem yS {l:List C8} (hl:Yf l):∀(m i:Nat),i<l.length->gi l i<m->∃t,Is l t i
 |0,_,_,h=>absurd h (Nat.not_lt_zero _)
 |m+1,i,hi,h=>by
  have ok:=hl i hi;by_cases ho:l[i].op=0
  .exact⟨.O i,by rw[Is];exact⟨U,hi,ho⟩⟩
  .have:∀a∈l[i].args,0<=a/\∃t,Is l t a.toNat:=fun a ha=>by
    cases hm:l[i].a with
    |true=>
     obtain⟨h0,h1⟩:=ok.e hm a ha;have fq:a.toNat<l.length:=by omega
     refine⟨h0,yS hl m a.toNat fq ?_⟩;rw[N5 hi hm]at h;cases pS:l[a.toNat].a with
     |true=>rw[N5 fq pS];omega
     |false=>rw[Mm fq pS];omega
    |false=>
     obtain⟨h0,fq,h1⟩:=ok.f hm a ha;refine⟨by omega,yS hl m a.toNat fq ?_⟩;rw[Mm hi hm]at h;rw[Mm fq h1];omega
   obtain⟨ts,fT⟩:=yR this;exact⟨.J l[i].op l[i].n ts,by rw[Is];exact⟨hi,ho,U,U,fT⟩⟩
theorem is_reg {l:List C8} (hl:Yf l) {i:Nat} (h:i<l.length):∃t,Is l t i:=yS hl _ i h (Nat.lt_succ_self _)
theorem J7 {l:List C8}:∀ {ts:List Zz} {zl:List Int},oS l ts zl->ts.length=zl.length
 | [],zl,h=>by rw[oS]at h;rw[h];rfl
 |t::ts,zl,h=>by
  rw[oS]at h;obtain⟨k,zs1,rfl,_,h3⟩:=h;rw[List.length_cons,List.length_cons,J7 h3]
theorem Rg {l:List C8}:∀ {ts:List Zz} {zl:List Int},oS l ts zl->∀i (h:i<ts.length) (h':i<zl.length),0<=zl[i]/\Is l ts[i] zl[i].toNat
 |t::ts,zl,h,i,hi,qx=>by
  rw[oS]at h;obtain⟨k,zs1,rfl,h2,h3⟩:=h;cases i with
  |zero=>exact⟨Int.natCast_nonneg k,by rw[List.getElem_cons_zero,List.getElem_cons_zero,Int.toNat_natCast];exact h2⟩
  |succ i=>exact Rg h3 i _ _
structure Z0 where
 a:Nat
 b:List C8
 c:List Int
inductive StepW where
 |Y (s:Z0)
 |O
 |J (e:Int)
def Z3:List WL->Int->Option Int
 | [],_=>none
 |a::l,c=>if a.1=c then some a.2 else Z3 l c
def Xy (r:C8) (con:Int) (n k:Nat):C8:= {r with b:=true,op:=3,n:=con,args:=(List.range k).map fun i=>((n+i:Nat):Int)}
def Xh (c:Cj) (s:Z0):StepW:=
 let x:=Y6 c s.a
 if x.op=1 then
  (if(s.b.getD x.a.toNat C8.g).b=true\/(s.b.getD x.a.toNat C8.g).a=true then .J 5 else match s.c with
   | []=> .J 8
   |p::ps=>match Z3 x.b p with
    |none=> .J 5
    |some t=> .Y ⟨t.toNat,s.b.set x.a.toNat (Xy (s.b.getD x.a.toNat C8.g) p s.b.length (g_ c.b p).toNat)++List.replicate (g_ c.b p).toNat C8.g,ps⟩)
 else if x.op=2 then(match s.c with
  | []=> .J 8
  |p::ps=>if X1 p 0 (x.d.length-1:Int)=true then .Y ⟨(x.d.getD p.toNat 0).toNat,s.b,ps⟩else .J 5)
 else if x.op=3 then .J 5
 else if x.op=4 then .Y ⟨s.a+1,s.b++[⟨true,true,false,0,0,[]⟩],s.c⟩
 else if x.op=5 then .Y ⟨s.a+1,s.b++[⟨false,true,false,x.c,x.n,x.args⟩],s.c⟩
 else(match s.c with
  | []=> .O
  |_::_=> .J 8)
inductive jN where
 |O (s:Z0)
 |J (e:Int)
inductive bh (c:Cj):Z0->jN->Prop where
 |Y {s s' r}:Xh c s= .Y s'->bh c s' r->bh c s r
 |O {s}:Xh c s= .O->bh c s (.O s)
 |J {s e}:Xh c s= .J e->bh c s (.J e)
theorem bh.u {c:Cj} {s s':Z0} {r:jN} (h:bh c s r) (e:Xh c s= .Y s'):bh c s' r:=by
 cases h with
 |Y h1 h2=>rw[e]at h1;cases h1;exact h2
 |O h1=>rw[e]at h1;cases h1
 |J h1=>rw[e]at h1;cases h1
theorem bh.z {c:Cj} {s:Z0} {r:jN} (h:bh c s r) (e:Xh c s= .O):r= .O s:=by
 cases h with
 |Y h1 h2=>rw[e]at h1;cases h1
 |O h1=>rfl
 |J h1=>rw[e]at h1;cases h1
theorem bh.g {c:Cj} {s:Z0} {r:jN} (h:bh c s r) (e:Xh c s= .J n):r= .J n:=by
 cases h with
 |Y h1 h2=>rw[e]at h1;cases h1
 |O h1=>rw[e]at h1;cases h1
 |J h1=>rw[e]at h1;cases h1;rfl
structure gQ (c:Cj) (S:List Int) (s:Z0):Prop where
 b:s.a<c.a.length
 a:oA S s.a=(s.b.length:Nat)
 d:Yf s.b
 e:s.b.length<=60
theorem Hv:∀ {l:List WL} {p t:Int},Z3 l p=some t->∃i,∃h:i<l.length,l[i]=(p,t)
 |a::l,p,t,h=>by
  rw[Z3]at h;split at h
  .next e=>
   refine⟨0,Nat.zero_lt_succ _,?_⟩;obtain⟨a1,a2⟩:=a;cases h;rw[<-e];rfl
  .obtain⟨i,hi,e⟩:=Hv h;exact⟨i+1,Nat.succ_lt_succ hi,e⟩
theorem Yf.push {l m:List C8} (h:Yf l) (hm:∀i (hi:i<m.length),tY (l++m) (l.length+i) m[i]):Yf (l++m):=fun i hi=>by
 rcases Nat.lt_or_ge i l.length with h1|h1
 .rw[List.getElem_append_left h1];have:=h i h1;exact⟨this.op,fun e a ha=>by
   obtain⟨q1,q2,q3⟩:=this.f e a ha;exact⟨q1,by rw[Qm];omega,by rw[List.getElem_append_left q2];exact q3⟩,this.e,this.c,this.b,this.d⟩
 .grind
theorem Uy (l:List C8) (i:Nat):tY l i C8.g:=⟨⟨fun _=>⟨rfl,.inl rfl⟩,fun _=>rfl⟩,fun _ a ha=>(by cases ha),fun h=>(by cases h),fun _=>rfl,fun h=>(by cases h),Qo _⟩
theorem Yf.look {l:List C8} {i:Nat} (h:Yf l) (hi:i<l.length) (h1:l[i].b=false) (h2:l[i].a=false) (hk:k<=4):Yf (l.set i (Xy l[i] con l.length k)++List.replicate k C8.g):=fun j hj=>by
 have Z6:l[i].c=false:=by
  cases hf:l[i].c with
  |false=>rfl
  |true=>rw[(h i hi).b hf]at h2;cases h2
 rw[Qm,List.length_set,List.length_replicate]at hj;rcases Nat.lt_or_ge j l.length with hj1|hj1
 .rw[List.getElem_append_left (by rw[List.length_set];exact hj1),List.getElem_set];by_cases hij:i=j
  .subst hij;rw[if_pos rfl];refine⟨⟨fun e=>(by cases e),fun e=>(by cases e.1)⟩,fun _ a ha=>?_,fun e=>?_,fun e=>(by cases e),fun e=>?_,?_⟩
   .obtain⟨q,hq,rfl⟩:=List.mem_map.1 ha;have hq:=List.mem_range.1 hq;refine⟨by omega,by rw[Qm,List.length_set,List.length_replicate];omega,?_⟩;rw[List.getElem_append_right (by rw[List.length_set];omega),List.getElem_replicate];rfl
   .have e:l[i].a=true:=e;rw[h2]at e;cases e
   .have e:l[i].c=true:=e;rw[Z6]at e;cases e
   .show((List.range k).map _).length<=4000;rw[Qn,List.length_range];omega
  .rw[if_neg hij];have:=h j hj1;refine⟨this.op,fun e a ha=>?_,this.e,this.c,this.b,this.d⟩;obtain⟨q1,q2,q3⟩:=this.f e a ha;refine⟨q1,by rw[Qm,List.length_set];omega,?_⟩;rw[List.getElem_append_left (by rw[List.length_set];exact q2),List.getElem_set];split
   .exact h2
   .exact q3
 .grind [List.getElem_append_right,Uy]
theorem EJ {c:Cj} (hc:ZT c) (hS:oN c S) {s s':Z0} (h:gQ c S s) (e:Xh c s= .Y s'):s.a<s'.a/\gQ c S s':=by
 have h0:0<=oA S s.a:=by rw[h.a];exact Int.natCast_nonneg _
 have W6:=hc.g h.b;rw[<-B2 h.b]at W6;have Xd:=hS.a s.a h.b h0;have XM:=hS.d s.a h.b h0;have XU:∀p∈Wc c s.a (Y6 c s.a) (oA S s.a),(s.a:Int)<p.1:=fun p hp=>(Fj hc W6 h.b h0 hp).1;have key:∀(p:WL) (rg:List C8) (pk:List Int),p∈Wc c s.a (Y6 c s.a) (oA S s.a)->p.2=(rg.length:Nat)->Yf rg->s.a<p.1.toNat/\gQ c S ⟨p.1.toNat,rg,pk⟩:=fun p rg pk hp h2 h3=>by
  obtain⟨q1,q2,q3⟩:=XM p hp;have:=XU p hp;exact⟨by omega,by show p.1.toNat<_;omega,q3.trans h2,h3,by show rg.length<=60;omega⟩
 rw[h.a]at Xd;generalize hx:Y6 c s.a=x at*;unfold Xh at e;simp only[hx]at e;split at e
 .next h1=>
  split at e
  .cases e
  .next Xo=>
   rw[not_or,Bool.not_eq_true,Bool.not_eq_true]at Xo;split at e
   .cases e
   .next p ps hp=>
    split at e
    .cases e
    .next t ht=>
     cases e;rw[Io h1]at W6;simp only[Qf]at W6;have ha:=VW.1 W6.2.2.1;unfold XO at Xd;rw[if_pos (.inl h1)]at Xd;have fq:x.a.toNat<s.b.length:=by have:=dT Xd;omega
     rw[Ao fq]at Xo|-;obtain⟨i,hi,hit⟩:=Hv ht;have uC:=Ga hc.z p;refine key (t,oA S s.a+g_ c.b p) _ ps ?_ ?_ (h.d.look fq Xo.1 Xo.2 (by omega))
     .grind [Wc,Ql]
     .rw[Qm,List.length_set,List.length_replicate,h.a];omega
 .next h1=>
  split at e
  .next h2=>
   split at e
   .cases e
   .next p ps hp=>
    split at e
    .next Yi=>
     cases e;have Yi:=VW.1 Yi;have Y1:p.toNat<x.d.length:=by omega
     rw[Ao Y1];refine key (x.d[p.toNat],oA S s.a) s.b ps ?_ h.a h.d;unfold Wc;rw[if_neg h1,if_pos h2];exact List.mem_map.2 ⟨x.d[p.toNat],Ql Y1,U⟩
    .cases e
  .next h2=>
   split at e
   .cases e
   .next h3=>
    split at e
    .next h4=>
     cases e;have:=key (((s.a+1:Nat):Int),oA S s.a+1) (s.b++[⟨true,true,false,0,0,[]⟩]) s.c (by unfold Wc;rw[if_neg h1,if_neg h2,if_pos (.inl h4)];exact Qp.2 rfl) (by rw[Qm,h.a];rfl) (h.d.push fun i hi=>by
      obtain rfl:i=0:=by have:i<1:=hi;omega
      exact⟨⟨fun _=>⟨rfl,.inr U⟩,fun _=>rfl⟩,fun _ a ha=>(by cases ha),fun _ a ha=>(by cases ha),fun _=>rfl,fun _=>rfl,Qo _⟩)
     exact this
    .next h4=>
     split at e
     .next h5=>
      cases e;rw[UI h5]at W6;simp only[Qf]at W6;have mG:=W6.2.2.2.2;have hrg:=W6.2.2.2.1;have XB:x.c≠0:=fun e0=>by
       unfold Zn XJ at mG;rw[e0]at mG;simp at mG
      have Xx:=hc.a.args _ (Ql h.b);rw[<-B2 h.b,hx]at Xx;unfold XO at Xd;rw[if_neg (by omega),if_pos h5]at Xd;have:=key (((s.a+1:Nat):Int),oA S s.a+1) (s.b++[⟨false,true,false,x.c,x.n,x.args⟩]) s.c (by unfold Wc;rw[if_neg h1,if_neg h2,if_pos (.inr h5)];exact Qp.2 rfl) (by rw[Qm,h.a];rfl) (h.d.push fun i hi=>by
       obtain rfl:i=0:=by have:i<1:=hi;omega
       refine⟨⟨fun e=>absurd e XB,fun e=>(by rcases e.2 with e|e<;>cases e)⟩,fun e=>(by cases e),fun _ a ha=>?_,fun e=>absurd e XB,fun e=>(by cases e),Xx⟩;have ha:a∈x.args:=ha;obtain⟨j,hj,rfl⟩:=List.mem_iff_getElem.1 ha;have q1:=GJ (n:=x.args.length) Xd hj;have q2:=GJ (n:=x.args.length) hrg hj;rw[Ao hj]at q1 q2;have q2:=VW.1 q2;rw[Bool.not_eq_true',decide_eq_false_iff_not]at q1;exact⟨q2.1,by omega⟩)
      exact this
     .split at e<;>cases e
theorem QP {c:Cj} {S:List Int} (hc:ZT c) (hS:oN c S):∀(m:Nat) (s:Z0),gQ c S s->c.a.length-s.a<=m->∃r,bh c s r
 |0,s,h,hm=>absurd h.b (by omega)
 |m+1,s,h,hm=>by
  cases e:Xh c s with
  |Y s'=>
   obtain⟨h1,h2⟩:=EJ hc hS h e;obtain⟨r,hr⟩:=QP hc hS m s' h2 (by omega);exact⟨r,.Y e hr⟩
  |O=>exact⟨_,.O e⟩
  |J n=>exact⟨_,.J e⟩
theorem TN {c:Cj} (hc:ZT c) (hS:oN c S) {s t:Z0} {r:jN} (h:bh c s r) (he:r= .O t) (ho:gQ c S s):gQ c S t/\Xh c t= .O:=by
 induction h with
 |Y h1 h2 ih=>exact ih he (EJ hc hS ho h1).2
 |O h1=>cases he;exact⟨ho,h1⟩
 |J h1=>cases he
end Go.Proofs.YtpihdbhocgcbpaaGreatDoor
open Go Am
namespace Am
variable {KP:AV->Sl->St->Prop} {ts:List TypeId}
theorem Tc {E:c_} {fr:Fr} {l:Sl} {st:St} {o:Oper} {all rest:List Oper} {K:Sl->St->Prop} {c:Call} {t e:TypeId} {x y:Operand} {sz VZ n m d:Nat} {z v w:AV} {cs new:List AV} (ah:a_ st e sz v cs n) (hap:CY st sz w=some (new,m)) (XV:new.length=m*sz) (fj:0<sz) (ao:k7 (n+m) VZ=true)
 (ho:o.op= .call c) (hc:c.callee= .builtin .append) (ht:c.argTypes.toList=t::ts) (ha:c.args.toList=[x,y])
 (hu:Wb E t=some (.slice e)) (X2:an E e=some sz) (cQ:i_ E e=some VZ) (hz:h_ E e=some z) (hk:(!(Nat.beq (Xu z.g) sz)||Nat.beq sz 0|| !(ZY E ts.head?))=false) (h0:Xw E ts.head?=false)
 (hx:Cg x l=some v) (hy:Cg y l=some w) (hg:o.guard=none) (hd:o.dst=some d) (C5:Nat.blt d fr.nt=true)
 (h:∀v2 XW,a_ XW e sz v2 (cs++new) (n+m)->(∀c,CB c v2=true->CB c v=true\/st.a<=c)->CL st XW (fun c=>CB c v=true)->(st.c<=st.a->Ch st XW)->
  CA E KP all rest fr ((d,v2)::l) XW K):CA E KP all (o::rest) fr l st K:=by
 obtain⟨v2,s2,h1,h2,h3,h4,h5,h6,h7,h8⟩:=ah.tP (VZ:=VZ) XV fj ao;exact CA.op (Zl.append ho hc ht ha hu X2 cQ hz hk h0 hx hy hap h1) hg hd C5 (h v2 s2 h2 (fun c hc=>(h3 c hc).imp id fun h=>by omega)
  ⟨h4,h6,h7,fun c hc ho=>h8 c hc (by simpa using ho)⟩ fun hb=>EY hb h1)
end Am
namespace Go.Proofs.YtpihdbhocgcbpaaGreatDoor.Wy
noncomputable def W0a:=WA KF2 34 (fun p:zO=>[.O (CJ p.1)]) (fun p=>W4 p.1)
noncomputable def W0:=WA W0a 35 (fun p:zO=>[.O (CJ p.1)]) (fun p=>W4 p.1)
variable {a:AV} {KP:AV->Sl->St->Prop} {pt:Bool} {hd:C8->List AV} {fn:Func} {f:FuncId} {e p r:Int} {new:List (C8×AV)} {args cs la':List AV} {picks0 ps to zl:List Int} {ops:List Oper} {rs:List ResultVar} {tZ:Nat} {o1 o2 own:Nat->Prop} {s':St} {T:TypeId}
theorem Gm {c:Cj} (h:ZT c):W0a 34 [.O (CJ c)]=some (W4 c):=
 Ak (enc:=fun p:zO=>[.O (CJ p.1)]) (fun p q h=>by rw[IB h]) ⟨c,h⟩
theorem Gl {c:Cj} (h:ZT c):W0 35 [.O (CJ c)]=some (W4 c):=
 Ak (enc:=fun p:zO=>[.O (CJ p.1)]) (fun p q h=>by rw[IB h]) ⟨c,h⟩
theorem wall0 (h:Wh Tryz.prog 10 [] (.bool true)):C6 Tryz.prog W0:=
 AG (AG (allF2 h) fun p=>all20 h _ _ _ (Go.Proofs.YtpihdbhocgcbpaaGreatDoor.Gm p.2)) fun p=>all20 h _ _ _ (Go.Proofs.YtpihdbhocgcbpaaGreatDoor.Gl p.2)
def bN (e:Int):AV:= .a_ 82 (.O [.int .i64 e])
theorem sure_to (e:Int):Co (EK W0) 82 [.bool true,.int .i64 e] S0 (.Y []):=by
 refine As U<|Ew U<|Tf U<|Sk ?_;exact⟨.inr U,U,U,U,[],.Y [],[],U,U,U,U⟩
noncomputable def W1:=WA W0 82 (fun e:Int=>[.bool true,.int .i64 e]) (fun _=> .Y [])
theorem GY:W1 82 [.bool true,.int .i64 e]=some (.Y []):=
 Ak (fun _ _ _=>rfl) e
theorem sure_px {K:FuncId->List AV->Option AV} (hK:K 82 [.bool false,.int .i64 e]=none) (s:St):jg (EK K) 82 [.bool false,.int .i64 e] s (fun _=>False) (fun v=>v=bN e):=by
 refine jg.gen (fn:=Tryz.f82) hK (by kernel_rfl) U U U U<|Ew U<|Tt U<|Sr<|Lv 3 U<|CA.raise U U U ?_;exact⟨U,U,U⟩
theorem DK:W1 82 [.bool false,.int .i64 e]=none:=Hw fun _ h=>by cases h
theorem Fo {K:FuncId->List AV->Option AV} {s:St} {R RP:AV->St->Prop} (hK:K 82 [.bool false,.int .i64 e]=none) (h:RP (bN e) s):VX (EK K) 82 [.bool false,.int .i64 e] s R RP:=(sure_px hK s).Xi (fun _ h=>h) (fun _ h=>h) h
def gR (s:St) (a:AV) (l:List Int):Prop:=a=Cq CN 1 l\/a_ s 3 1 a (l.flatMap CN) l.length
def c9 (r:C8):List AV:=[.bool r.c,.bool r.a,.bool r.b,.int .i64 r.op,.int .i64 r.n]
def jO (r:C8):List AV:=[.bool r.b,.bool (r.a&& !r.c),.bool r.c,.int .i64 r.op,.int .i64 r.n]
def Ct (hd:C8->List AV) (p:C8×AV):List AV:=hd p.1++[p.2]
def jj (s:St) (r:C8) (a:AV):Prop:=gR s a r.args/\(r.a=false->a_ s 3 1 a (r.args.flatMap CN) r.args.length)
structure YF (s:St) (T:TypeId) (hd:C8->List AV) (v:AV) (l:List C8) (la:List AV):Prop where
 a:la.length=l.length
 b:a_ s T 6 v ((l.zip la).flatMap (Ct hd)) l.length
 args:∀i (h:i<l.length) (h':i<la.length),jj s l[i] la[i]
theorem gR.CQ {s:St} {l:List Int} (h:gR s a l) (hn:s.a<=s'.a) (hh:∀c cs,c<s.a->s.b.g c=some (.J cs 3 true)->s'.b.g c=s.b.g c):gR s' a l:=by
 rcases h with h|h
 .exact .inl h
 .refine .inr (h.CQ hn fun c hc=>?_);rcases h with⟨rfl,_⟩|⟨b,rfl,hb,hg,_⟩
  .cases hc
  .obtain rfl:b=c:=Qb hc;exact hh b _ hb hg
theorem jj.CQ {s:St} {r:C8} (h:jj s r a) (hn:s.a<=s'.a) (hh:∀c cs,c<s.a->s.b.g c=some (.J cs 3 true)->s'.b.g c=s.b.g c):jj s' r a:=
 ⟨h.1.CQ hn hh,fun e=>by
  refine(h.2 e).CQ hn fun c hc=>?_;rcases h.2 e with⟨rfl,_⟩|⟨b,rfl,hb,hg,_⟩
  .cases hc
  .obtain rfl:b=c:=Qb hc;exact hh b _ hb hg⟩
theorem gR.len {s:St} {l:List Int} (h:gR s a l):aQ a=some (.int .i64 (l.length:Nat)):=by
 rcases h with rfl|h
 .rfl
 .exact h.len
def cT (c:Cj) (at_:Nat) (v:AV) (Cc:List Int) (mb:Nat) (left:Int):List AV:=
 [Cq Ok 2 c.b,Cq Ok 2 c.c,Cq Wj 7 c.a,Cq CN 1 c.d,.int .i64 (at_:Nat),v,Cq CN 1 Cc,.bW mb,.int .i64 left]
def ZH (k:Nat):List Nat->List (AV×AV×Nat)
 | []=>[]
 |r::l=>(.int .i64 (r:Nat),.int .i64 (k:Nat),k)::ZH (k+1) l
def YQ (s:St) (wb:Nat) (c:Cj) (at_:Nat) (v:AV) (Cc:List Int) (mb:Nat) (left:Int):Prop:=s.b.g wb=some (.J (cT c at_ v Cc mb left) 87 false)/\wb<s.a
theorem J5 {l:List Int}:aQ (Cq CN 1 l)=some (.int .i64 (l.length:Nat)):=rfl
theorem yT {s:St} :Xp s 1 (some (.int .i64 1)) none none (Cq CN 1 (p::ps))=some (Cq CN 1 ps):=by
 have hb:WB 0 (ps.length+1) (some (.int .i64 ((1:Nat):Int)))=some 1:=JW (by omega);have hf:∀l:List Int,(l.flatMap CN).length=l.length:=fun l=>by
  induction l with
  |nil=>rfl
  |cons a l ih=>rw[List.flatMap_cons,Qm,ih,List.length_cons];exact Nat.add_comm _ _
 have hc:v_ ((p::ps).flatMap CN) (1*1) ((ps.length+1-1)*1)=some (ps.flatMap CN):=by grind [Hp,List.length_cons,List.take_of_length_le]
 show((WB 0 (ps.length+1) (some (.int .i64 ((1:Nat):Int)))).bind fun l=>(v_ ((p::ps).flatMap CN) (l*1) ((ps.length+1-l)*1)).bind fun q=>some (AV.Ck q (ps.length+1-l) 1 true))=_;rw[hb];show((v_ ((p::ps).flatMap CN) (1*1) ((ps.length+1-1)*1)).bind _)=_;rw[hc];rfl
theorem QT {s:St} {wb:Nat} {c:Cj} {at_:Nat} {v:AV} {mb:Nat} {left:Int} (h:YQ s wb c at_ v (p::ps) mb left) (hn:ps.length<=4000) {R RP:AV->St->Prop}
 (hR:∀s',CL s s' (fun c=>c=wb)->s'.a=s.a->YQ s' wb c at_ v ps mb left->(s.c<=s.a->Ch s s')->R (.int .i64 p) s'):VX (EK W1) 83 [.J wb 0] s R RP:=by
 obtain⟨hg,hb⟩:=h;refine Ar U ?_;have Yw:s.u.b.g wb=some (.J (cT c at_ v (p::ps) mb left) 87 false):=hg;unfold cT at Yw;have hl:=J5 (l:=p::ps);have hlen:(p::ps).length=ps.length+1:=rfl;have ru:=Af AD (l:=p::ps) (i:=0) (Nat.zero_lt_succ _);rw[List.getElem_cons_zero]at ru;have rJ:=yT (s:=s.u) (p:=p) (ps:=ps);focus
  refine Ew U<|Es<|Lv 3 U<|Lo (kl U Yw U) U<|Lv 2 U ?_;refine By (k:=9) U (fun g1=>?_) (fun g1=>?_);have h1:=dT g1;refine Lo (kc U (GY)) U<|Ld<|Es<|Lv 3 U<|Lo (kl U Yw U) U<|Lq (kv (k:=0) U ru) U<|Lw U<|Es<|Lv 4 U<|Lo (kl U Yw U) U<|Lo (Tl U I1 D9 U U U rJ) U<|Lv 2 U<|Ln (kw U Yw U) U<|Ld<|Ew U ?_;rotate_left;have h1:=dF g1;exact absurd h1 (by omega)
 refine Se (AC ⟨.inl U,_,U,_,Ac U U,_,Dt U (BB (.inr hb)),?_⟩);exact hR _ (CL.u CL.B) U ⟨by
  show(s.u.z wb _).b.g wb=_;rw[Ah,if_pos rfl];rfl,hb⟩ (Ch.u Ch.B)
theorem NC {s:St} {wb:Nat} {c:Cj} {at_:Nat} {v:AV} {mb:Nat} {left:Int} (h:YQ s wb c at_ v [] mb left) {R RP:AV->St->Prop} (hp:RP (bN 8) s):VX (EK W1) 83 [.J wb 0] s R RP:=by
 obtain⟨hg,hb⟩:=h;refine Ar U ?_;have Yw:s.u.b.g wb=some (.J (cT c at_ v [] mb left) 87 false):=hg;unfold cT at Yw;have hl:=J5 (l:=[]);refine Ew U<|Es<|Lv 3 U<|Lo (kl U Yw U) U<|Lv 2 U ?_;refine An U U (by kernel_rfl) U U U U (Fo DK ?_);exact⟨U,hp⟩
theorem AR {hd:C8->List AV} (h:∀r,(hd r).length=5):∀l:List (C8×AV),(l.flatMap (Ct hd)).length=l.length*6
 | []=>rfl
 |p::l=>by
  rw[List.flatMap_cons,Qm,AR h l,List.length_cons];unfold Ct;rw[Qm,h];show 5+1+_=_;omega
theorem FY {s s2:St} (h:CL s s2 o1) (ho:∀c,o1 c->o2 c):CL s s2 o2:=⟨h.d,h.a,fun c hc=>(h.e c hc).imp id fun⟨a,b⟩=>⟨a,ho c b⟩,fun c hc hn=>h.b c hc fun e=>hn (ho c e)⟩
theorem Fp {s:St} {T2:TypeId} {sz n b:Nat} {v:AV} {x:List AV} (h:a_ s T sz v cs n) (hg:s.b.g b=some (.J x T2 pt)) (Yh:T≠T2):¬CB b v=true:=by
 intro ho;rcases h with⟨rfl,_⟩|⟨b',rfl,_,kB,_⟩
 .cases ho
 .obtain rfl:b'=b:=Qb ho;rw[kB]at hg;simp only[Option.some.injEq,CG.J.injEq]at hg;exact Yh hg.2.1
theorem YF.u {s:St} {v:AV} {l:List C8} {la:List AV} (h:YF s T hd v l la) :(l++new.map (·.1)).zip (la++new.map (·.2))=l.zip la++new:=by
 rw[List.zip_append h.a.symm]
 congr 1
 clear h;induction new with
 |nil=>rfl
 |cons p new ih=>rw[List.map_cons,List.map_cons,List.zip_cons_cons,ih]
theorem FJ {s:St} {wb:Nat} {c:Cj} {at_:Nat} {v y:AV} {Cc:List Int} {mb:Nat} {left:Int} {l:List C8} {la:List AV} (h:YQ s wb c at_ v Cc mb left) (hr:YF s 161 c9 v l la) 
 (hy:CY s 6 y=some (new.flatMap (Ct c9),new.length)) (hn:∀p∈new,jj s p.1 p.2) (hl:l.length+new.length<=4000) {R RP:AV->St->Prop}
 (hR:∀s' v',CL s s' (fun c=>c=wb\/CB c v=true)->YQ s' wb c at_ v' Cc mb left->YF s' 161 c9 v' (l++new.map (·.1)) (la++new.map (·.2))->(∀c,CB c v'=true->CB c v=true\/s.a<=c)->(s.c<=s.a->Ch s s')->R (.Y []) s'):VX (EK W1) 40 [.J wb 0,y] s R RP:=by
 obtain⟨hg,hb⟩:=h;refine VX.unit (fn:=Tryz.f40) U (by kernel_rfl) U U U U ?_;have Yw:s.u.b.g wb=some (.J (cT c at_ v Cc mb left) 87 false):=hg;unfold cT at Yw;refine Sr<|Lv 4 U<|Lo (kl U Yw U) U<|qm U ?_;have ah:a_ s.u 161 6 v ((l.zip la).flatMap (Ct c9)) l.length:=hr.b;refine Tc ah hy (AR (fun _=>rfl) new) (by decide) (A3 (by omega) (by decide)) U U U U s8 G8 LG Pa (by kernel_rfl) (by kernel_rfl) U U U U U fun v2 s2 g2 o2 c2 l2=>?_;have Xo:¬CB wb v=true:=Fp ah Yw (by decide);have nv:¬CB wb v2=true:=fun h=>(o2 wb h).elim Xo fun h=>by have:s.a<=wb:=h;omega
 have iu:=(c2.b wb hb Xo).trans Yw;have dx:s.a<=s2.a:=c2.d;refine Lv 2 U ?_;have si:v2.u=false/\v2.g.length=1/\over v2.g 5 [Cq Ok 2 c.b,Cq Ok 2 c.c,Cq Wj 7 c.a,Cq CN 1 c.d,.int .i64 (at_:Nat),v,Cq CN 1 Cc,.bW mb,.int .i64 left]=some [Cq Ok 2 c.b,Cq Ok 2 c.c,Cq Wj 7 c.a,Cq CN 1 c.d,.int .i64 (at_:Nat),v2,Cq CN 1 Cc,.bW mb,.int .i64 left]:=by
  rcases g2 with⟨rfl,_⟩|⟨_,rfl,_⟩<;>exact⟨rfl,rfl,rfl⟩
 refine Ln (BL (s':=s2.z wb (some (.J [Cq Ok 2 c.b,Cq Ok 2 c.c,Cq Wj 7 c.a,Cq CN 1 c.d,.int .i64 (at_:Nat),v2,Cq CN 1 Cc,.bW mb,.int .i64 left] 87 false))) U sz_85 U U (BH iu si.2.1 si.1 si.2.2)) U<|Ld ?_;have ed:CL s (s.G (s2.z wb (some (.J [Cq Ok 2 c.b,Cq Ok 2 c.c,Cq Wj 7 c.a,Cq CN 1 c.d,.int .i64 (at_:Nat),v2,Cq CN 1 Cc,.bW mb,.int .i64 left] 87 false)))) (fun c=>c=wb\/CB c v=true):=
  CL.u ((FY c2 (fun c h=> .inr h)).g CL.B (fun _ h=>h) (fun c h=> .inl (.inl h)) (Qj _))
 have ma:∀ {a:AV} {r:C8},jj s r a->jj (s.G (s2.z wb (some (.J [Cq Ok 2 c.b,Cq Ok 2 c.c,Cq Wj 7 c.a,Cq CN 1 c.d,.int .i64 (at_:Nat),v2,Cq CN 1 Cc,.bW mb,.int .i64 left] 87 false)))) r a:=fun ha=>ha.CQ dx fun b cs hb sr=>ed.b b hb fun h=>by
  rcases h with rfl|h
  .rw[hg]at sr;simp at sr
  .exact Fp ah sr (by decide) h
 have hRR:=hR _ v2 ed ⟨Ah.trans (if_pos rfl),Nat.lt_of_lt_of_le hb dx⟩ ⟨by rw[Qm,Qm,Qn,Qn,hr.a],by
  rw[hr.u,List.flatMap_append,Qm,Qn];exact g2.CQ (Qj _) fun b hb=>Ah.trans (if_neg fun e=>nv (by rw[<-e];exact hb)),fun i h h'=>?_⟩ o2 fun hb=>Ch.u ((l2 (Qj _)).g Ch.B) hb
 .exact⟨.inr U,rfl,fun h=>absurd h (BB (.inr (by rw[c2.a];exact hb))),hRR⟩
 .rw[Qm,Qn]at h;rcases Nat.lt_or_ge i l.length with h1|h1
  .rw[List.getElem_append_left h1,List.getElem_append_left (by rw[hr.a];exact h1)];exact ma (hr.args i h1 (by rw[hr.a];exact h1))
  .rw[List.getElem_append_right h1,List.getElem_append_right (by rw[hr.a];exact h1),List.getElem_map,List.getElem_map];simp only[hr.a];exact ma (hn _ (Ql (by omega)))
theorem Cz.named {E:c_} {KN:PN} {all rest:List Oper} {i:Nat} {fr:Fr} {l:Sl} {st:St} {js:List Nat} {nl:WG} {K:Sl->St->Prop} (h:∀s',s'=st->Cz E KN all rest i fr l s' js nl K):Cz E KN all rest i fr l st js nl K:=h st rfl
theorem CA.named {E:c_} {all:List Oper} {fr:Fr} {l:Sl} {s:St} {K:Sl->St->Prop} (h:∀s',s'=s->CA E KP all ops fr l s' K):CA E KP all ops fr l s K:=h s rfl
theorem Dk {K:FuncId->List AV->Option AV} {c:Code} {s:St} {R RP:AV->St->Prop} {fr:Fr} {l0:Sl} (hm:K f args=none) (hz:(EK K).g f=1) (hf:(EK K).a.g f=some fn) (hc:fn.body=some c) (hr:fn.results.toList=rs)
 (Z6:n_ fn.ntmps args none=fr) (hl:YW 0 args []=l0) (h:Cu (EK K) c fr l0 s.u fun ex fr l st=>match ex with
  | .O v=>fr.defers=[]/\RP v (s.G st)
  |ex=>(ex= .Y\/ex= .J)/\fr.defers=[]/\∃r,CK (EK K) st l rs=some [.bool r]/\(st.d=[]->R (.bool r) s)/\R (.bool r) (s.G st)):VX (EK K) f args s R RP:=by
 refine VX.gen hm hf hc hr Z6 hl (Cu.mono h fun ex fr l st hq=>?_);have key:(ex= .Y\/ex= .J)/\fr.defers=[]/\(∃r,CK (EK K) st l rs=some [.bool r]/\(st.d=[]->R (.bool r) s)/\R (.bool r) (s.G st))->cH (EK K) f rs s R ex fr l st:=fun⟨h1,h2,r,h3,h4,h5⟩=>
  ⟨h1,st,by rw[h2];rfl,[.bool r],h3,Fz hz (fun _ _=>rfl) (fun _=>rfl) h4 fun _=>h5⟩
 cases ex with
 |O v=>exact hq
 |J=>exact key hq
 |Y=>exact key hq
 |Z i=>exact key hq
def oV (s:St) (wb:Nat) (c:Cj) (v:AV) (mb:Nat) (left:Int) (R:AV->St->Prop) (t:Z0):Prop:=
 ∀s' v' la',CL s s' (fun d=>d=wb\/CB d v=true)->YQ s' wb c t.a v' t.c mb left->YF s' 161 c9 v' t.b la'->(∀d,CB d v'=true->CB d v=true\/s.a<=d)->(s.c<=s.a->Ch s s')->R (.bool true) s'
def kA (s:St) (wb:Nat) (v:AV) (RP:AV->St->Prop) (e:Int):Prop:=∀s',CL s s' (fun d=>d=wb\/CB d v=true)->(s.c<=s.a->Ch s s')->RP (bN e) s'
theorem AP {st:St} {z:List AV} (hb:st.c<=st.a):CL st ((st.g (.J z T false)).z st.a (some (.J cs T false))) own/\Ch st ((st.g (.J z T false)).z st.a (some (.J cs T false))):=
 ⟨(CL.z (own:=own)).g CL.B (fun _ h=>h) (fun c h=> .inr (Nat.le_of_eq h.symm)) hb,(Ch.z hb).g Ch.B⟩
theorem YQ.CQ {s:St} {wb:Nat} {c:Cj} {at_:Nat} {v:AV} {Cc:List Int} {mb:Nat} {left:Int} (h:YQ s wb c at_ v Cc mb left) (hn:s.a<=s'.a) (hh:s'.b.g wb=s.b.g wb):YQ s' wb c at_ v Cc mb left:=⟨hh.trans h.1,Nat.lt_of_lt_of_le h.2 hn⟩
theorem YF.g {s:St} {v:AV} {l:List C8} {la:List AV} (h:YF s T hd v l la) (hn:s.a<=s'.a) (hh:∀c,c<s.a->(CB c v=true\/∃cs,s.b.g c=some (.J cs 3 true))->s'.b.g c=s.b.g c):YF s' T hd v l la:=
 ⟨h.a,h.b.CQ hn fun c hc=>hh c (h.b.own hc) (.inl hc),fun i hi qx=>(h.args i hi qx).CQ hn fun c cs hc hg=>hh c hc (.inr ⟨cs,hg⟩)⟩
section
variable {s : St} {wb : Nat} {c : Cj} {at_ : Nat} {v : AV} {Cc : List Int} {mb : Nat} {left : Int} {l : List C8} {la : List AV} {R RP : AV -> St -> Prop}
theorem G9 {s3:St} {v':AV} {t:Z0} (hK:oV s wb c v mb left R t) (c3:CL s.u s3 (fun d=>d=wb\/CB d v=true)) (l3:Ch s.u s3) (w3:YQ s3 wb c tZ v' picks0 mb left) (r3:YF s3 161 c9 v' t.b la') (o3:∀d,CB d v'=true->CB d v=true\/s.a<=d):
 R (.bool true) (s.G (s3.z wb (some (.J (cT c t.a v' t.c mb left) 87 false)))):=by
 have Yh:∀d,d=wb->(CB d v'=true\/∃cs,s3.b.g d=some (.J cs 3 true))->False:=fun d hd h=>by
  subst hd;rcases h with h|⟨cs,h⟩
  .exact Fp r3.b w3.1 (by decide) h
  .rw[w3.1]at h;simp at h
 exact hK _ v' la' (CL.u (c3.g CL.B (fun _ h=>h) (fun d h=> .inl (.inl h)) (Qj _))) ⟨Ah.trans (if_pos U),w3.2⟩
  ⟨r3.a,r3.b.CQ (Qj _) fun d hd=>Ah.trans (if_neg fun e=>Yh d e (.inl hd)),fun i hi qx=>(r3.args i hi qx).CQ (Qj _) fun d cs _ hg=>Ah.trans (if_neg fun e=>Yh d e (.inr ⟨cs,hg⟩))⟩ o3 fun hb=>Ch.u (l3.g Ch.B) hb
theorem RN (hk:at_<c.a.length) (h:YQ s wb c at_ v Cc mb left) (hs:CO c.a[at_]= .mv) (hP:kA s wb v RP 5):VX (EK W1) 41 [.J wb 0] s R RP:=by
 obtain⟨hg,hb⟩:=h;refine Dk (fn:=Tryz.f41) U (by kernel_rfl) (by kernel_rfl) U U U U ?_;have Yw:s.u.b.g wb=some (.J (cT c at_ v Cc mb left) 87 false):=hg;unfold cT at Yw;have Z4:=Af A8 hk;generalize hx:c.a[at_]=x at*;obtain⟨a1,a2,a3,a4,a5,a6,a7⟩:=AU (st:=s.u) (z:=[]) (cs:=[]) (T:=166);refine Ew U<|Sq<|Ad (by kernel_rfl)<|Nv 4 U<|Nm U Yw U (.inl U) U<|Nv 3 U<|Nm U Yw U (.inl U) U<|Nq (kv U Z4) U<|Nv 1 U ?_;refine Na (kC U (Br)) (.inl U) U<|Cz.done<|Sb ?_;rw[hs];refine Ew U<|Tf U<|Ew U<|Tf U<|Ew U<|Tt U<|Es<|Lo (kz U) U<|Ln (kw U a1 U) U<|Ld<|Sr<|Lv 2 U<|CA.raise U U U ?_;obtain⟨b1,b2⟩:=AP (st:=s.u) (z:=[]) (cs:=[]) (T:=166) (own:=fun d=>d=wb\/CB d v=true) (Qj _);exact⟨U,hP _ (CL.u b1) (Ch.u b2)⟩
theorem RM (hk:at_<c.a.length) (h:YQ s wb c at_ v Cc mb left) (hr:YF s 161 c9 v l la) (hs:CO c.a[at_]= .kt) (ig:l.length<=60) (dC:at_<=4000) (hR:oV s wb c v mb left R ⟨at_+1,l++[⟨true,true,false,0,0,[]⟩],Cc⟩):VX (EK W1) 41 [.J wb 0] s R RP:=by
 obtain⟨hg,hb⟩:=h;refine Dk (fn:=Tryz.f41) U (by kernel_rfl) (by kernel_rfl) U U U U ?_;have Yw:s.u.b.g wb=some (.J (cT c at_ v Cc mb left) 87 false):=hg;unfold cT at Yw;have Z4:=Af A8 hk;generalize hx:c.a[at_]=x at*;obtain⟨a1,a2,a3,a4,a5,a6,a7⟩:=AU (st:=s.u) (z:=[]) (cs:=[]) (T:=167);obtain⟨b1,b2⟩:=AP (st:=s.u) (z:=[]) (cs:=[]) (T:=167) (own:=fun d=>d=wb\/CB d v=true) (Qj _);refine Ew U<|Sq<|Ad (by kernel_rfl)<|Nv 4 U<|Nm U Yw U (.inl U) U<|Nv 3 U<|Nm U Yw U (.inl U) U<|Nq (kv U Z4) U<|Nv 1 U ?_;refine Na (kC U (Br)) (.inl U) U<|Cz.done<|Sb ?_;rw[hs];refine Ew U<|Tf U<|Ew U<|Tf U<|Ew U<|Tf U<|Ew U<|Tt U<|Es<|Lo (kz U) U<|Ln (kw U a1 U) U<|Ld<|Es<|Lv 2 U<|Lo (AX U s8 G8 Pa U U U) U ?_;refine CA.named fun sA XP=>?_
 have cA:CL s.u sA (fun d=>d=wb\/CB d v=true):=by rw[XP];exact b1.g CL.z (own:=fun d=>d=wb\/CB d v=true) (fun _ h=>h) (fun d h=> .inl h) (Qj _)
 have lA:Ch s.u sA:=by rw[XP];exact b2.g (Ch.z (by rw[a5,a7];exact Nat.le_succ _))
 have hA:∀d,d<s.a->sA.b.g d=s.b.g d:=fun d hd=>by rw[XP];exact(Ap (show d<_ from Nat.lt_succ_of_lt hd)).trans (a4 d hd)
 have nA:s.a<=sA.a:=cA.d;have hy:CY sA 6 (.Z ((s.u.g (.J [] 167 false)).z s.u.a (some (.J [] 167 false))).a 0 (0+1) 6 (some (0+1)))=some (([(⟨true,true,false,0,0,[]⟩,.Ca)]:List (C8×AV)).flatMap (Ct c9),1):=by
  rw[XP];exact Bt Ax rfl
 clear XP;refine An U U (by kernel_rfl) U U U U (FJ (YQ.CQ ⟨hg,hb⟩ nA (hA wb hb)) (hr.g nA fun d hd _=>hA d hd) hy (fun p hp=>by rw[Qp.1 hp];exact⟨.inr (a_.nil _ _ _),fun h=>by cases h⟩) (by show l.length+1<=4000;omega) fun s3 v3 c3 w3 r3 o3 l3=>?_);have uG:=w3.1;unfold cT at uG;refine Ld<|Sr<|Lv 3 U<|Lo (kl U uG U) U ?_;refine Lq (ka (b:=1) U (by omega)) U ?_;refine Lv 2 U<|Ln (kw U uG U) U<|Ld<|Ew U<|Se ?_;have c5:=cA.g c3 (fun _ h=>h) (fun d h=> .inl h) (Qj _);exact⟨.inl U,rfl,true,Ac U U,fun h=>absurd h (BB (.inr (by rw[c5.a];exact hb))),G9 hR c5 (lA.g (l3 (by rw[cA.a];exact nA))) w3 r3 fun d hd=>(o3 d hd).imp id fun h=>by omega⟩
theorem RK {o n:Int} (hk:at_<c.a.length) (h:YQ s wb c at_ v Cc mb left) (hr:YF s 161 c9 v l la) (hs:CO c.a[at_]= .O o n zl) (ig:l.length<=60) (dC:at_<=4000) (hR:oV s wb c v mb left R ⟨at_+1,l++[⟨false,true,false,o,n,zl⟩],Cc⟩):VX (EK W1) 41 [.J wb 0] s R RP:=by
 obtain⟨hg,hb⟩:=h;refine Dk (fn:=Tryz.f41) U (by kernel_rfl) (by kernel_rfl) U U U U ?_;have Yw:s.u.b.g wb=some (.J (cT c at_ v Cc mb left) 87 false):=hg;unfold cT at Yw;have Z4:=Af A8 hk;generalize hx:c.a[at_]=x at*;obtain⟨a1,a2,a3,a4,a5,a6,a7⟩:=AU (st:=s.u) (z:=[.int .i64 0,.int .i64 0,.Ca]) (cs:=[.int .i64 o,.int .i64 n,Cq CN 1 zl]) (T:=119);obtain⟨b1,b2⟩:=AP (st:=s.u) (z:=[.int .i64 0,.int .i64 0,.Ca]) (cs:=[.int .i64 o,.int .i64 n,Cq CN 1 zl]) (T:=119) (own:=fun d=>d=wb\/CB d v=true) (Qj _);refine Ew U<|Sq<|Ad (by kernel_rfl)<|Nv 4 U<|Nm U Yw U (.inl U) U<|Nv 3 U<|Nm U Yw U (.inl U) U<|Nq (kv U Z4) U<|Nv 1 U ?_;refine Na (kC U (Br)) (.inl U) U<|Cz.done<|Sb ?_;rw[hs];refine Ew U<|Tf U<|Ew U<|Tf U<|Ew U<|Tf U<|Ew U<|Tf U<|Ew U<|Tt U<|Es<|Lo (kz U) U<|Ln (kw U a1 U) U<|Ld<|Es<|Lv 2 U ?_
 refine Lo (kl U a2 U) U<|Lv 1 U<|Lo (kl U a2 U) U<|Lv 1 U<|Lo (kl U a2 U) U<|Lv 1 U<|Lo (AX U s8 G8 Pa U U U) U ?_;refine CA.named fun sA XP=>?_;have cA:CL s.u sA (fun d=>d=wb\/CB d v=true):=by rw[XP];exact b1.g CL.z (own:=fun d=>d=wb\/CB d v=true) (fun _ h=>h) (fun d h=> .inl h) (Qj _)
 have lA:Ch s.u sA:=by rw[XP];exact b2.g (Ch.z (by rw[a5,a7];exact Nat.le_succ _))
 have hA:∀d,d<s.a->sA.b.g d=s.b.g d:=fun d hd=>by rw[XP];exact(Ap (show d<_ from Nat.lt_succ_of_lt hd)).trans (a4 d hd)
 have nA:s.a<=sA.a:=cA.d;have hy:CY sA 6 (.Z ((s.u.g (.J [.int .i64 0,.int .i64 0,.Ca] 119 false)).z s.u.a (some (.J [.int .i64 o,.int .i64 n,Cq CN 1 zl] 119 false))).a 0 (0+1) 6 (some (0+1)))=some (([(⟨false,true,false,o,n,zl⟩,Cq CN 1 zl)]:List (C8×AV)).flatMap (Ct c9),1):=by
  rw[XP];exact Bt Ax rfl
 clear XP;refine An U U (by kernel_rfl) U U U U (FJ (YQ.CQ ⟨hg,hb⟩ nA (hA wb hb)) (hr.g nA fun d hd _=>hA d hd) hy (fun p hp=>by rw[Qp.1 hp];exact⟨.inl U,fun h=>by cases h⟩) (by show l.length+1<=4000;omega) fun s3 v3 c3 w3 r3 o3 l3=>?_);have uG:=w3.1;unfold cT at uG;refine Ld<|Sr<|Lv 3 U<|Lo (kl U uG U) U ?_;refine Lq (ka (b:=1) U (by omega)) U ?_;refine Lv 2 U<|Ln (kw U uG U) U<|Ld<|Ew U<|Se ?_;have c5:=cA.g c3 (fun _ h=>h) (fun d h=> .inl h) (Qj _);exact⟨.inl U,rfl,true,Ac U U,fun h=>absurd h (BB (.inr (by rw[c5.a];exact hb))),G9 hR c5 (lA.g (l3 (by rw[cA.a];exact nA))) w3 r3 fun d hd=>(o3 d hd).imp id fun h=>by omega⟩
theorem TD (hk:at_<c.a.length) (h:YQ s wb c at_ v Cc mb left) (hr:YF s 161 c9 v l la) (hs:CO c.a[at_]= .Z to) (oG:to.length<=4000) (pX:Cc.length<=4000) (qL:∀t∈to,0<=t)
 (hR:∀p ps,Cc=p::ps->X1 p 0 (to.length-1:Int)=true->oV s wb c v mb left R ⟨(to.getD p.toNat 0).toNat,l,ps⟩) (hP8:Cc=[]->kA s wb v RP 8) (hP5:∀p ps,Cc=p::ps->X1 p 0 (to.length-1:Int)=false->kA s wb v RP 5):VX (EK W1) 41 [.J wb 0] s R RP:=by
 obtain⟨hg,hb⟩:=h;refine Dk (fn:=Tryz.f41) U (by kernel_rfl) (by kernel_rfl) U U U U ?_;have Yw:s.u.b.g wb=some (.J (cT c at_ v Cc mb left) 87 false):=hg;unfold cT at Yw;have Z4:=Af A8 hk;generalize hx:c.a[at_]=x at*;obtain⟨a1,a2,a3,a4,a5,a6,a7⟩:=AU (st:=s.u) (z:=[.Ca]) (cs:=[Cq CN 1 to]) (T:=117);obtain⟨b1,b2⟩:=AP (st:=s.u) (z:=[.Ca]) (cs:=[Cq CN 1 to]) (T:=117) (own:=fun d=>d=wb\/CB d v=true) (Qj _);refine Ew U<|Sq<|Ad (by kernel_rfl)<|Nv 4 U<|Nm U Yw U (.inl U) U<|Nv 3 U<|Nm U Yw U (.inl U) U<|Nq (kv U Z4) U<|Nv 1 U ?_;refine Na (kC U (Br)) (.inl U) U<|Cz.done<|Sb ?_;rw[hs];refine Ew U<|Tf U<|Ew U<|Tt U<|Es<|Lo (kz U) U<|Ln (kw U a1 U) U<|Ld<|Es<|qm U ?_;refine CA.named fun sA XP=>?_;have cA:CL s.u sA (fun d=>d=wb\/CB d v=true):=by rw[XP];exact b1
 have lA:Ch s.u sA:=by rw[XP];exact b2
 have hA:∀d,d<s.a->sA.b.g d=s.b.g d:=fun d hd=>by rw[XP];exact a4 d hd
 have nA:sA.a=s.a+1:=by rw[XP];exact a7
 have gA:sA.b.g s.a=some (.J [Cq CN 1 to] 117 false):=by rw[XP];exact a2
 clear XP b1 b2 a1 a2 a3 a4 a5 a6 a7;have wA:YQ sA wb c at_ v Cc mb left:=YQ.CQ ⟨hg,hb⟩ (by omega) (hA wb hb);have rA:YF sA 161 c9 v l la:=hr.g (by omega) fun d hd _=>hA d hd;have bA:sA.c<=sA.a:=by rw[cA.a];exact cA.d
 cases Cc with
 |nil=>
  refine An U U (by kernel_rfl) U U U U (NC wA ?_);exact⟨U,hP8 U _ (CL.u cA) (Ch.u lA)⟩
 |cons p ps=>
  refine An U U (by kernel_rfl) U U U U (QT wA (by rw[List.length_cons]at pX;omega) fun s1 c1 n1 w1 l1=>?_);have g1:=(c1.b s.a (by omega) (by omega)).trans gA;have w1':=w1.1;unfold cT at w1';have c5:=cA.g c1 (own:=fun d=>d=wb\/CB d v=true) (fun _ h=>h) (fun d h=> .inl (.inl h)) (Qj _);have l5:=lA.g (l1 bA);have hl:=J5 (l:=to);focus
   refine Lw U<|Es<|Lv 2 U<|Lo (kl U g1 U) U<|Lv 1 U<|Lq (ks U (by omega)) U ?_;refine Lo (kc U (Ff)) U ?_;refine By (k:=127) U (fun g2=>?_) (fun g2=>?_);refine Lo (kc U (GY)) U<|Ld<|Sr<|Lv 2 U<|Lo (kl U g1 U) U<|qm U ?_;rotate_left;refine An U U (by kernel_rfl) U U U U (Fo DK ?_);rotate_left
  .obtain⟨h0,h9⟩:=VW.1 g2;obtain⟨m,rfl⟩:∃m:Nat,p=m:=⟨p.toNat,by omega⟩
   have hm:m<to.length:=by omega
   obtain⟨q,hq⟩:∃q:Nat,to[m]=q:=⟨to[m].toNat,by have:=qL _ (Ql hm);omega⟩
   have ru:=Af AD hm;rw[hq]at ru;refine Lq (kv U ru) U<|Lv 3 U<|Ln (kw U w1' U) U<|Ld<|Ew U<|Se ?_;have hK:=hR m ps rfl g2;have e:(to.getD (m:Int).toNat 0).toNat=q:=by rw[Int.toNat_natCast,Ao hm,hq];rfl
   rw[e]at hK;have r1:YF s1 161 c9 v l la:=rA.g c1.d fun d hd h=>c1.b d hd fun e=>by
    subst e;rcases h with h|⟨cs,h⟩
    .exact Fp rA.b wA.1 (by decide) h
    .rw[wA.1]at h;simp at h
   exact⟨.inl U,rfl,true,Ac U U,fun h=>absurd h (BB (.inr (by rw[c5.a];exact hb))),G9 hK c5 l5 w1 r1 fun d hd=> .inl hd⟩
  .exact⟨U,hP5 p ps U g2 _ (CL.u c5) (Ch.u l5)⟩
theorem Pi (hk:at_<c.a.length) (h:YQ s wb c at_ v Cc mb left) (hs:CO c.a[at_]= .J r) (hR:Cc=[]->∀s',CL s s' (fun _=>False)->(s.c<=s.a->Ch s s')->R (.bool false) s') (hP:Cc≠ []->kA s wb v RP 8):VX (EK W1) 41 [.J wb 0] s R RP:=by
 obtain⟨hg,hb⟩:=h;refine Dk (fn:=Tryz.f41) U (by kernel_rfl) (by kernel_rfl) U U U U ?_;have Yw:s.u.b.g wb=some (.J (cT c at_ v Cc mb left) 87 false):=hg;unfold cT at Yw;have Z4:=Af A8 hk;have hl:=J5 (l:=Cc);generalize hx:c.a[at_]=x at*;obtain⟨a1,a2,a3,a4,a5,a6,a7⟩:=AU (st:=s.u) (z:=[.int .i64 0]) (cs:=[.int .i64 r]) (T:=121);obtain⟨b0,b2⟩:=AP (st:=s.u) (z:=[.int .i64 0]) (cs:=[.int .i64 r]) (T:=121) (own:=fun _=>False) (Qj _);obtain⟨b1,_⟩:=AP (st:=s.u) (z:=[.int .i64 0]) (cs:=[.int .i64 r]) (T:=121) (own:=fun d=>d=wb\/CB d v=true) (Qj _);have iu:=(a4 wb hb).trans Yw;refine Ew U<|Sq<|Ad (by kernel_rfl)<|Nv 4 U<|Nm U Yw U (.inl U) U<|Nv 3 U<|Nm U Yw U (.inl U) U<|Nq (kv U Z4) U<|Nv 1 U ?_;refine Na (kC U (Br)) (.inl U) U<|Cz.done<|Sb ?_;rw[hs];focus
  refine Ew U<|Tf U<|Ew U<|Tf U<|Ew U<|Tf U<|Ew U<|Tf U<|Ew U<|Tf U<|Ew U<|Tt U<|Es<|Lo (kz U) U<|Ln (kw U a1 U) U<|Ld ?_;refine Es<|Lv 3 U<|Lo (kl U iu U) U<|Lv 2 U ?_;refine By (k:=184) U (fun g1=>?_) (fun g1=>?_);have h1:=dT g1;refine Lo (kc U (GY)) U<|Ld<|Ew U ?_;rotate_left;have h1:=dF g1;refine An U U (by kernel_rfl) U U U U (Fo DK ?_);rotate_left
 .obtain rfl:Cc=[]:=List.length_eq_zero_iff.1 (by omega);refine Se ?_;exact⟨.inl U,rfl,false,Ac U U,fun _=>hR U _ CL.A fun _=>Ch.A,hR U _ (CL.u b0) (Ch.u b2)⟩
 .exact⟨rfl,hP (fun e=>by rw[e]at h1;exact h1 U) _ (CL.u b1) (Ch.u b2)⟩
end
end Go.Proofs.YtpihdbhocgcbpaaGreatDoor.Wy
open Go Am
namespace Am
variable {one part:Bool} {a:Nat} {KN:PN} {x:Tr AV->Option AV} {f:Tr AV->St->Option (AV×St)} {H:Tr CG} {e t:TypeId}
section
variable {E : c_} {fr : Fr} {l : Sl} {st : St} {o : Oper} {all rest : List Oper} {i : Nat} {js : List Nat} {nl : WG} {K : Sl -> St -> Prop} {od : Option Nat}
theorem LN {v:AV} {s2:St} {aX:k_} (XB:XL E o.type o.op= .a_ one x f)
 (je:∀T,k8 (CW (b_ o.op.operands.toList) l) T->WQ (.a_ one x f) T=aX) (hH:∀news:WG,(∀p∈news,p∈nl)->Ws (CX all i) news st.b aX=H)
 (ho:Zl E o fr (CW (b_ o.op.operands.toList) l) (st.B H) v s2)
 (ZL:st.a<=s2.a) (CU:∀b∈s2.d,b<st.a/\Xe (CX all i) b nl=true) (eP:∀j∈js,Nat.testBit (CX all i) j=true\/∃e∈KN.a,e.1=j) (hw:N' KN (CX all i) s2)
 (hg:Wf all l o) (hd:o.dst=od) (C5:Wz fr.nt od=true)
 (h:Cz E KN all rest (i+1) fr (WX od v l) (st.A s2) (i::js) (XG i (XG i nl (Y3 st.a (s2.a-st.a))) s2.d) K):Cz E KN all (o::rest) i fr l st js nl K:=by
 intro T0 T news looked hT aK bJ bS;obtain⟨N,hN⟩:=ho _ (hT.CW (b_ o.op.operands.toList));let dd:j0:=Zk E all i o
 let q:bn:=⟨T,st,news,looked⟩
 let TP:=XN T (b_ o.op.operands.toList) .J
 let re:=dP dd q (aX,v,s2)
 have ZD:dd.a=CX all i:=rfl;obtain⟨M,ex,l',T',s',hk,hr⟩:=h T0 (dZ od v T) (XG i (XG i news (Y3 st.a (s2.a-st.a))) s2.d) ((i,aX,re)::looked) (hT.WX od v)
  (fun p hp=>BY (fun p hp=>BY aK hp) hp) (fun p hp=>by
  rcases Qk.1 hp with rfl|hp
  .exact .inl (Qh ..)
  .exact(bJ p hp).imp (Qg _) id) bS.cons
 refine⟨max N M,ex,l',T',s',hk,fun n hn=>?_⟩;have bG:XS E (ev E n) fr dd q TP=some (aX,v,s2):=by
  unfold XS;have bU:dd.so= .a_ one x f:=XB;have zL:XK dd.so=true:=by rw[bU];rfl
  rw[zL];simp only[cond_true];have ht:WQ dd.so TP=aX:=by rw[bU];exact je _ (hT.CW _)
  rw[ht];have XM:=hN n (by omega) K0;show Zo aX ((Xf E (XL E o.type o.op) K0).run (ev E n) fr TP (st.B (Ws dd.a news st.b aX)))=_;rw[ZD,hH news aK,XM];rfl
 have su:∀L:List Nat,(∀b∈L,(b<st.a/\Xe (CX all i) b nl=true)/\b∈s2.d)->WR dd.a st.a s2.a s2.b q L=true:=by
  intro L;induction L with
  |nil=>intro _;rfl
  |cons b L ih=>
   intro hL;unfold WR;have h1:Nat.blt b st.a=true:=by simpa[Nat.blt_eq]using(hL b (Qh ..)).1.1
   have h2:Yj dd.a b q.b=false:=Bi (hL b (Qh ..)).1.2 aK;have h3:ae dd.a b s2.a (s2.b.g b) q.c=true:=PM eP hw (hL b (Qh ..)).2 bJ bS.2.2;rw[h1,h2,h3,ih fun c hc=>hL c (Qg _ hc)];rfl
 have Zx:Wt fr.nt dd q (aX,v,s2)=some ⟨dZ od v T,st.A s2,XG i (XG i news (Y3 st.a (s2.a-st.a))) s2.d,(i,aX,re)::looked⟩:=by
  unfold Wt;have h1:Nat.ble q.a.a s2.a=true:=Qd ZL;have h2:WR dd.a q.a.a s2.a s2.b q s2.d=true:=su s2.d fun b hb=>⟨CU b hb,hb⟩;have h3:dd.o.dst=od:=hd;simp only[h1,h2,h3,Bool.and_self,cond_true,HD C5,Qe];rfl
 exact Dr (I' hT hg bG) Zx (hr n (by omega))
theorem Ea {a x:Operand} {k b off:Nat} {v:AV} {cs Yg:List AV} (eN:b<st.a) (ho:o.op= .store t a x) (hn:an E t=some k)
 (ha:Cg a (CW (b_ o.op.operands.toList) l)=some (.J b off)) (hx:Cg x (CW (b_ o.op.operands.toList) l)=some v) (bD:st.b.g b=some (.J cs e part)) (hlen:v.g.length=k) (htup:v.u=false) (hov:over v.g off cs=some Yg)
 (hc:Xe (CX all i) b nl=true) (eP:∀j∈js,Nat.testBit (CX all i) j=true\/∃e∈KN.a,e.1=j) (hw:∀e∈KN.a,Nat.testBit (CX all i) e.1=true\/e.2.1≠b) (hg:Wf all l o) (hd:o.dst=od) (C5:Wz fr.nt od=true)
 (h:Cz E KN all rest (i+1) fr (WX od (.Y []) l) {st with d:=bif Nat.blt b st.c then b::st.d else st.d,b:=st.b.u b (some (.J Yg e part))} (i::js) ((i,b)::nl) K):Cz E KN all (o::rest) i fr l st js nl K:=by
 have ZQ:(st.B (Tr.u .J b (st.b.g b))).b.g b=some (.J cs e part):=by
  show(Tr.u .J b (st.b.g b)).g b=_;rw[Ay,if_pos rfl,bD]
 have CU:((st.B (Tr.u .J b (st.b.g b))).z b (some (.J Yg e part))).d=[b]:=by
  show(bif Nat.blt b st.a then [b]else [])=_;rw[show Nat.blt b st.a=true from Qd eN];rfl
 have hm:st.A ((st.B (Tr.u .J b (st.b.g b))).z b (some (.J Yg e part)))= {st with d:=bif Nat.blt b st.c then b::st.d else st.d,b:=st.b.u b (some (.J Yg e part))}:=by
  have hh:WH ((st.B (Tr.u .J b (st.b.g b))).z b (some (.J Yg e part))).b (Y3 st.a (st.a-st.a)) (WH ((st.B (Tr.u .J b (st.b.g b))).z b (some (.J Yg e part))).b [b] st.b)=st.b.u b (some (.J Yg e part)):=by
   rw[Nat.sub_self];show st.b.u b _=_;rw[show((st.B (Tr.u .J b (st.b.g b))).z b (some (.J Yg e part))).b.g b=some (.J Yg e part)from by
    show((Tr.u .J b (st.b.g b)).u b (some (.J Yg e part))).g b=_;rw[Ay,if_pos rfl]]
  unfold St.A;rw[CU];show St.mk st.a st.c _ _=_
  congr 1
 have:=LN (E:=E) (KN:=KN) (all:=all) (rest:=rest) (fr:=fr) (K:=K) (od:=od) (nl:=nl) (js:=js) (i:=i) (o:=o) (l:=l) (st:=st) (x:=Ci E a) (one:=true) (aX:= .O b) (H:=Tr.u .J b (st.b.g b)) (v:= .Y []) (s2:=(st.B (Tr.u .J b (st.b.g b))).z b (some (.J Yg e part)))
  (f:=fun T s=>(Ci E a T).bind fun p=>(Ci E x T).bind fun v=>eU (dH k s v p)) (by
   rw[ho];show dM E t a x=_;unfold dM;rw[hn]) (fun T hT=>by
   show ff (Z8 (Ci E a T))=_;rw[Ae hT ha];rfl) (fun news aK=>by
   show(bif Yj (CX all i) b news then _ else _)=_;rw[Bi hc aK];rfl) (BL ho hn ha hx (BH ZQ hlen htup hov)) (Qj _) (fun c tO=>by
   rw[CU,Qp]at tO;subst tO;exact⟨eN,hc⟩) eP (fun e he=>(hw e he).imp id fun Yh=> .inl fun hm=>by
    rw[CU,Qp]at hm;exact Yh hm) hg hd C5
 rw[hm,CU]at this;apply this;show Cz E KN all rest (i+1) fr _ _ _ (XG i (XG i nl (Y3 st.a (st.a-st.a))) [b]) K;rw[Nat.sub_self];exact h
theorem J6 {js:List Nat} (h:(js.all fun j=>Nat.testBit a j||KN.a.any fun e=>Nat.beq e.1 j)=true):∀j∈js,Nat.testBit a j=true\/∃e∈KN.a,e.1=j:=fun j hj=>by
 have:=List.all_eq_true.1 h j hj;rw[Bool.or_eq_true]at this;refine this.imp id fun h=>?_;obtain⟨e,he,h2⟩:=List.any_eq_true.1 h;exact⟨(e),(he),(Qb h2)⟩
end
end Am
namespace Go.Proofs.YtpihdbhocgcbpaaGreatDoor.Wy
def XQ:List WL->Int->Nat
 | [],_=>0
 |a::l,c=>if a.1=c then 0 else XQ l c+1
variable {part:Bool} {hd:C8->List AV} {q:C8×AV} {L:List (C8×AV)} {new:List AV} {S:List Int} {alts:List WL} {b m:Nat} {cap:Option Nat} {e:TypeId}
theorem R4:∀(l:List WL) (c:Int),XQ l c<=l.length
 | [],_=>Qj _
 |a::l,c=>by
  rw[XQ];split
  .exact Qo _
  .exact Nat.succ_le_succ (R4 l c)
theorem R3:∀ {l:List WL} {c:Int} {i:Nat} (h:i<l.length),i<XQ l c->l[i].1≠c
 |a::l,c,0,_,h=>by
  rw[XQ]at h;split at h
  .cases h
  .assumption
 |a::l,c,i+1,hi,h=>by
  rw[XQ]at h;split at h
  .cases h
  .exact R3 (l:=l) (Nat.lt_of_succ_lt_succ hi) (Nat.lt_of_succ_lt_succ h)
theorem Ka:∀ {l:List WL} {c:Int} (h:XQ l c<l.length),l[XQ l c].1=c
 |a::l,c,h=>by
  by_cases e:a.1=c
  .have h0:XQ (a::l) c=0:=by rw[XQ,if_pos e]
   simp only[h0,List.getElem_cons_zero];exact e
  .have h1:XQ (a::l) c=XQ l c+1:=by rw[XQ,if_neg e]
   rw[h1]at h;simp only[h1,List.getElem_cons_succ];exact Ka (Nat.lt_of_succ_lt_succ h)
theorem MN:∀ {l:List WL} {c:Int},Z3 l c=if h:XQ l c<l.length then some l[XQ l c].2 else none
 | [],c=>rfl
 |a::l,c=>by
  rw[Z3];by_cases e:a.1=c
  .have h0:XQ (a::l) c=0:=by rw[XQ,if_pos e]
   simp only[h0,if_pos e,List.getElem_cons_zero,List.length_cons];rw[dif_pos (Nat.zero_lt_succ _)]
  .have h1:XQ (a::l) c=XQ l c+1:=by rw[XQ,if_neg e]
   simp only[h1,if_neg e,List.getElem_cons_succ,List.length_cons];rw[MN (l:=l)];by_cases h:XQ l c<l.length
   .rw[dif_pos h,dif_pos (Nat.succ_lt_succ h)]
   .rw[dif_neg h,dif_neg (fun h2=>h (Nat.lt_of_succ_lt_succ h2))]
def ixV (l:List WL) (c:Int):Int:=if XQ l c<l.length then((XQ l c:Nat):Int)else-1
theorem yU {s:St} {c:Int} (hg:s.b.g b=some (.J [.int .i64 c] 3 false)) (hb:b<s.a) (a:WL):Co (EK W1) 85 [.O (Y9 a),.J b 0] s (.bool (decide (a.1=c))):=by
 refine Co.flat (fn:=Tryz.f85) U (by kernel_rfl) U U U U (fun _ _=>rfl) (fun _=>rfl) ?_;have g1:(s.u.g (.J (Y9 a) 60 false)).b.g b=some (.J [.int .i64 c] 3 false):=(Ap hb).trans hg;have g2:(s.u.g (.J (Y9 a) 60 false)).b.g s.a=some (.J (Y9 a) 60 false):=Ax;refine Es<|Lo (BR U U U) U<|Lw U<|Es<|Lv 1 U ?_;iterate 2 refine Lo (kl U ‹_› U) U ?_
 refine Lw U ?_;exact Se ⟨.inl U,U,U,_,Ac U U,U⟩
theorem Mz {s:St} {c:Int} (hg:s.b.g b=some (.J [.int .i64 c] 3 false)) (hb:b<s.a) (l:List WL) (hl:l.length<=4000):
 Co (EK W1) 84 [Cq Y9 2 l,.an (.func 85) [] [.J b 0]] s (.int .i64 (ixV l c)):=by
 refine Co.flat (fn:=Tryz.f84) U (by kernel_rfl) U U U U (fun _ _=>rfl) (fun _=>rfl) ?_;have hle:=R4 l c;refine Ew U<|Sq<|Ew U<|Sb ?_;refine Ai (fun i:Nat=>([(8,.int .i64 (i:Nat)),(7,.int .i64 (l.length:Nat)),(1,.an (.func 85) [] [.J b 0]),(0,Cq Y9 2 l)],s.u)) (fun i=>l.length-i) (fun i=>i<=XQ l c) 0 (Qo _) U (Ab (by repeat' constructor)) ?_;intro i hi;dsimp only at hi|-;by_cases h:i<l.length
 .have hp:=Af BE h;focus
   refine Ew U<|Sq ?_;refine Cd U (fun h1=>?_) (fun h1=>?_);refine Sk<|Sq<|Sb<|Ew U<|Es<|Lv 3 U<|Lq (kv U hp) U<|Lv 1 U ?_;rotate_left;exact absurd h1 (by omega)
  refine Lo (Eb U U U (by kernel_rfl) U (yU (s:=s.u) hg hb l[i])) U ?_;focus
   refine Ld ?_;refine Cd U (fun h2=>?_) (fun h2=>?_);refine Ew U ?_;rotate_left;refine Sk<|Sr ?_;refine Lq (ka (b:=1) U (by omega)) U ?_;refine Lw U ?_;rotate_left
  .refine Se ⟨.inl U,U,U,_,Ac U U,?_⟩;have e:i=XQ l c:=by
    rcases Nat.lt_or_ge i (XQ l c)with h3|h3
    .exact absurd h2 (R3 h h3)
    .omega
   unfold ixV;rw[<-e,if_pos h];rfl
  .refine⟨i+1,?_,by show l.length-(i+1)<l.length-i;omega,U,U,Ab (by repeat' constructor)⟩;rcases Nat.lt_or_ge i (XQ l c)with h3|h3
   .exact h3
   .obtain rfl:i=XQ l c:=by omega
    exact absurd (Ka h) h2
 .focus
   refine Ew U<|Sq ?_;refine Cd U (fun h1=>?_) (fun h1=>?_);exact absurd h1 (by omega);refine Sx<|A0 U<|Ew U ?_;rotate_left
  refine Se ⟨.inl U,U,U,_,Ac U U,?_⟩;unfold ixV;rw[if_neg (by omega)];rfl
section
variable {s : St} {wb : Nat} {c : Cj} {at_ : Nat} {v : AV} {Cc : List Int} {mb : Nat} {left : Int} {l : List C8} {la : List AV} {R RP : AV -> St -> Prop}
theorem F8 {hd:C8->List AV} (ny:∀r,(hd r).length=5):∀ {L:List (C8×AV)} {m k:Nat} (hm:m<L.length),k<6->(L.flatMap (Ct hd))[m*6+k]?=(Ct hd L[m])[k]?
 |p::L,0,k,_,hk=>by
  have hl:(Ct hd p).length=6:=by unfold Ct;rw[Qm,ny];rfl
  rw[List.flatMap_cons,Nat.zero_mul,Nat.zero_add,List.getElem?_append_left (by omega)];rfl
 |p::L,m+1,k,hm,hk=>by
  have hl:(Ct hd p).length=6:=by unfold Ct;rw[Qm,ny];rfl
  rw[List.flatMap_cons,List.getElem?_append_right (by omega),show(m+1)*6+k-(Ct hd p).length=m*6+k by omega,F8 ny (L:=L) (Nat.lt_of_succ_lt_succ hm) hk];rfl
theorem O4 {hd:C8->List AV} (ny:∀r,(hd r).length=5):∀ {L:List (C8×AV)} {m k:Nat} (hm:m<L.length) (w:AV) (q:C8×AV),k<6->(Ct hd L[m]).set k w=Ct hd q->(L.flatMap (Ct hd)).set (m*6+k) w=(L.set m q).flatMap (Ct hd)
 |p::L,0,k,_,w,q,hk,hq=>by
  have hl:(Ct hd p).length=6:=by unfold Ct;rw[Qm,ny];rfl
  rw[List.flatMap_cons,Nat.zero_mul,Nat.zero_add,List.set_append_left _ _ (by omega),List.set_cons_zero,List.flatMap_cons];have hq:(Ct hd p).set k w=Ct hd q:=hq;rw[hq]
 |p::L,m+1,k,hm,w,q,hk,hq=>by
  have hl:(Ct hd p).length=6:=by unfold Ct;rw[Qm,ny];rfl
  rw[List.flatMap_cons,List.set_append_right _ _ (by omega),show(m+1)*6+k-(Ct hd p).length=m*6+k by omega,O4 ny (L:=L) (Nat.lt_of_succ_lt_succ hm) w q hk hq,List.set_cons_succ,List.flatMap_cons]
noncomputable def bj (s:St) (b:Nat) (o:Option CG):St:= {s with d:=bif Nat.blt b s.c then b::s.d else s.d,b:=s.b.u b o}
theorem VY {s:St} {c:Nat} {o:Option CG}:(bj s b o).b.g c=if c=b then o else s.b.g c:=Ay ..
theorem fG {s:St} {c:Nat} {o:Option CG}:c∈(bj s b o).d↔(c=b/\c<s.c)\/c∈s.d:=by
 show c∈(bif Nat.blt b s.c then b::s.d else s.d)↔_;cases h:Nat.blt b s.c with
 |true=>
  have h2:b<s.c:=Qc h;rw[cond_true,Qk];exact⟨fun h=>h.imp (fun e=>⟨e,by rw[e];exact h2⟩) id,fun h=>h.imp (fun e=>e.1) id⟩
 |false=>
  rw[cond_false];refine⟨.inr,fun h2=>h2.elim (fun⟨e,h3⟩=>?_) id⟩;have:=Qd (show c+1<=s.c from h3);rw[e]at this;rw[show Nat.blt b s.c=Nat.ble (b+1) s.c from rfl,this]at h;cases h
theorem De {s:St} {o:Option CG}:CL s (bj s b o) (fun c=>c=b):=⟨Qj _,rfl,fun c hc=>by
 rcases fG.1 hc with h|h
 .exact .inr ⟨h.2,h.1⟩
 .exact .inl h,fun c _ h=>VY.trans (if_neg h)⟩
theorem Fx {s:St} {o:Option CG}:Ch s (bj s b o):=⟨rfl,fun c hc=>fG.2 (.inr hc),fun c hc hn=>VY.trans (if_neg fun e=>hn (fG.2 (.inl ⟨e,hc⟩)))⟩
theorem PS (p:Int):L' (.int .i64 p) (.int .i64 p)=true:=by
 unfold L' ay iO;simp
theorem GL (ny:∀r,(hd r).length=5) (k:Nat) {w:AV} (hm:m<L.length) (hk:k<6) (hq:(Ct hd L[m]).set k w=Ct hd q):over [w] (0+m*(5+1)+k) (L.flatMap (Ct hd))=some ((L.set m q).flatMap (Ct hd)):=by
 have C5:m*6+k<(L.flatMap (Ct hd)).length:=by rw[AR ny];omega
 rw[show 0+m*(5+1)+k=m*6+k by omega,GM C5,O4 ny hm w q hk hq]
theorem Tu {α β:Type}:∀ {l:List α} {k:List β} {m:Nat} {x:α} {y:β},(l.zip k).set m (x,y)=(l.set m x).zip (k.set m y)
 | [],_,_,_,_=>by simp
 |_::_,[],_,_,_=>by simp
 |a::l,b::k,0,x,y=>rfl
 |a::l,b::k,m+1,x,y=>by
  rw[List.zip_cons_cons,List.set_cons_succ,List.set_cons_succ,List.set_cons_succ,List.zip_cons_cons,Tu]
theorem E1 {hd:C8->List AV} {x:C8×AV} {cs:List AV} (h:Ct hd x=cs):∀n,Xj cs n=(List.replicate n x).flatMap (Ct hd)
 |0=>rfl
 |n+1=>by
  rw[List.replicate_succ,List.flatMap_cons,<-E1 h n,h];rfl
theorem Iu {s:St} {sz n:Nat} (hg:s.b.g b=some (.J new e part)) (hl:new.length=n*sz):CY s sz (.Z b 0 n sz cap)=some (new,n):=by
 show(bif Nat.beq sz sz then(Ww (s.b.g b)).bind fun cs=>(XE 0 cs).bind fun l=>(pa (n*sz) l).bind fun l=>some (l,n)else none)=_;rw[Nat.beq_refl,hg];show(pa (n*sz) new).bind _=_;rw[<-hl,DI];rfl
theorem RL (hk:at_<c.a.length) (h:YQ s wb c at_ v Cc mb left) (hr:YF s 161 c9 v l la) (hs:CO c.a[at_]= .Y (m:Nat) alts) (hm:m<l.length) (ig:l.length<=60) (pX:Cc.length<=4000) (fq:alts.length<=4000)
 (hcon:∀a∈alts,0<=a.1/\a.1<c.b.length) (uC:∀p∈c.b,0<=p.2/\p.2<=4) (hnil:l[m].a=false->l[m].b=false->l[m].args=[]) (htg:∀a∈alts,0<=a.2)
 (hR:∀p ps t,l[m].b=false->l[m].a=false->Cc=p::ps->Z3 alts p=some t->oV s wb c v mb left R ⟨t.toNat,l.set m (Xy l[m] p l.length (g_ c.b p).toNat)++List.replicate (g_ c.b p).toNat C8.g,ps⟩)
 (hPn:∀p ps,l[m].b=false->l[m].a=false->Cc=p::ps->Z3 alts p=none->kA s wb v RP 5) (hP8:l[m].b=false->l[m].a=false->Cc=[]->kA s wb v RP 8) (hPs:l[m].b=true\/l[m].a=true->kA s wb v RP 5):VX (EK W1) 41 [.J wb 0] s R RP:=by
 obtain⟨hg,hb⟩:=h;refine Dk (fn:=Tryz.f41) U (by kernel_rfl) (by kernel_rfl) U U U U ?_;have Yw:s.u.b.g wb=some (.J (cT c at_ v Cc mb left) 87 false):=hg;unfold cT at Yw;have Z4:=Af A8 hk;generalize hx:c.a[at_]=x at*;obtain⟨a1,a2,a3,a4,a5,a6,a7⟩:=AU (st:=s.u) (z:=[.int .i64 0,.Ca]) (cs:=[.int .i64 (m:Nat),Cq Y9 2 alts]) (T:=114);obtain⟨b1,b2⟩:=AP (st:=s.u) (z:=[.int .i64 0,.Ca]) (cs:=[.int .i64 (m:Nat),Cq Y9 2 alts]) (T:=114) (own:=fun d=>d=wb\/CB d v=true) (Qj _);refine Ew U<|Sq<|Ad (by kernel_rfl)<|Nv 4 U<|Nm U Yw U (.inl U) U<|Nv 3 U<|Nm U Yw U (.inl U) U<|Nq (kv U Z4) U<|Nv 1 U ?_;refine Na (kC U (Br)) (.inl U) U<|Cz.done<|Sb ?_;rw[hs];refine Ew U<|Tt U<|Es<|Lo (kz U) U<|Ln (kw U a1 U) U<|Ld ?_;refine Az fun sA XP=>?_;have cA:CL s.u sA (fun d=>d=wb\/CB d v=true):=by rw[XP];exact b1
 have lA:Ch s.u sA:=by rw[XP];exact b2
 have hA:∀d,d<s.a->sA.b.g d=s.b.g d:=fun d hd=>by rw[XP];exact a4 d hd
 have nA:sA.a=s.a+1:=by rw[XP];exact a7
 have gA:sA.b.g s.a=some (.J [.int .i64 (m:Nat),Cq Y9 2 alts] 114 false):=by rw[XP];exact a2
 clear XP b1 b2 a1 a2 a3 a4 a5 a6 a7;have wA:YQ sA wb c at_ v Cc mb left:=YQ.CQ ⟨hg,hb⟩ (by omega) (hA wb hb);have rA:YF sA 161 c9 v l la:=hr.g (by omega) fun d hd _=>hA d hd;have bA:sA.c<=sA.a:=by rw[cA.a];exact cA.d
 have wA':=wA.1;unfold cT at wA';obtain⟨b,rfl,eN,vg,ru⟩:=rA.b.at hm;have vh:m<(l.zip la).length:=by rw[List.length_zip,rA.a,Nat.min_self];exact hm
 have e0:(l.zip la)[m]=(l[m],la[m]'(by rw[rA.a];exact hm)):=List.getElem_zip;have ld2:Wq (EK W1) 4 sA (.J b (0+m*(5+1)+2))=some (.bool l[m].b):=AA xM u3 vg (by rw[show 0+m*(5+1)+2=m*6+2 by omega,F8 (fun _=>rfl) vh (by decide),e0];rfl);have ld1:Wq (EK W1) 4 sA (.J b (0+m*(5+1)+1))=some (.bool l[m].a):=AA xM u3 vg (by rw[show 0+m*(5+1)+1=m*6+1 by omega,F8 (fun _=>rfl) vh (by decide),e0];rfl);focus
  refine Ad (by kernel_rfl)<|Nv 3 U<|Nm U wA' U (.inl U) U<|Nv 1 U<|Nm U gA U (.inl U) U ?_;refine Nq (kM U (by omega)) U ?_;refine Nw U<|Es<|Lv 3 U<|Lo (AQ U U ld2) U<|Lv 2 U ?_;refine Bb U (fun g1=>?_) (fun g1=>?_);have h1:=HF g1;refine Lv 3 U<|Lg U U (AQ U U ld1)<|Lv 2 U ?_;refine By (k:=46) U (fun g2=>?_) (fun g2=>?_);have h2:=HF g2;refine Lo (kc U (GY)) U<|Ld ?_;rotate_left;have h2:=HG g2;refine An U U (by kernel_rfl) U U U U (Fo DK ?_);rotate_left;have h1:=HG g1;refine Lv 6 U ?_;refine An U U (by kernel_rfl) U U U U (Fo DK ?_);rotate_left
 rotate_left
 .exact⟨U,hPs (.inr h2) _ (CL.u cA) (Ch.u lA)⟩
 .exact⟨U,hPs (.inl h1) _ (CL.u cA) (Ch.u lA)⟩
 refine Cu.sub (l':=[(4,.J b (0+m*(5+1))),(3,.J s.u.a 0),(0,.J wb 0)]) ?_ (Ab (by repeat' constructor));cases Cc with
 |nil=>
  refine Es<|qm U ?_;refine An U U (by kernel_rfl) U U U U (NC wA ?_);exact⟨U,hP8 h1 h2 U _ (CL.u cA) (Ch.u lA)⟩
 |cons p ps=>
  refine Es<|qm U ?_;refine An U U (by kernel_rfl) U U U U (QT wA (by rw[List.length_cons]at pX;omega) fun s1 c1 n1 w1 l1=>?_);obtain⟨a1,a2,a3,a4,a5,a6,a7⟩:=AU (st:=s1) (z:=[.int .i64 0]) (cs:=[.int .i64 p]) (T:=3);have dt:s1.c<=s1.a:=by rw[c1.a];exact Nat.le_trans bA c1.d
  obtain⟨b1,b2⟩:=AP (st:=s1) (z:=[.int .i64 0]) (cs:=[.int .i64 p]) (T:=3) (own:=fun d=>d=wb\/CB d (.Z b 0 l.length (5+1) none)=true) dt;refine Lo (kz U) U<|Ln (kw U a1 U) U<|Ld ?_;refine Az fun sB YP=>?_;have hwn:∀d,(CB d (.Z b 0 l.length (5+1) none)=true\/∃cs,sA.b.g d=some (.J cs 3 true))->d≠wb:=fun d h e=>by
   subst e;rcases h with h|⟨cs,h⟩
   .exact Fp rA.b wA.1 (by decide) h
   .rw[wA.1]at h;simp at h
  have nB:sB.a=s.a+2:=by rw[YP];show s1.a+1=_;omega
  have hB:∀d,d<sA.a->d≠wb->sB.b.g d=sA.b.g d:=fun d hd Yh=>by rw[YP];exact(a4 d (by omega)).trans (c1.b d hd Yh)
  have zP:sB.b.g s1.a=some (.J [.int .i64 p] 3 false):=by rw[YP];exact a2
  have gB3:=(hB s.a (by omega) (by omega)).trans gA;have wB:YQ sB wb c at_ (.Z b 0 l.length (5+1) none) ps mb left:=by rw[YP];exact w1.CQ (Nat.le_succ _) (a4 wb w1.2)
  have hbw:b≠wb:=hwn b (.inl (Nat.beq_refl b));have rB:YF sB 161 c9 (.Z b 0 l.length (5+1) none) l la:=rA.g (by omega) fun d hd h=>hB d hd (hwn d h);have cB:CL s.u sB (fun d=>d=wb\/CB d (.Z b 0 l.length (5+1) none)=true):=by rw[YP];exact(cA.g c1 (fun _ h=>h) (fun d h=> .inl (.inl h)) (Qj _)).g b1 (fun _ h=>h) (fun d h=> .inl h) (Qj _)
  have lB:Ch s.u sB:=by rw[YP];exact(lA.g (l1 bA)).g b2
  clear YP a1 a2 a3 a4 a5 a6 a7 b1 b2;have jP:=Mz (s:=sB) (c:=p) zP (by omega) alts fq;unfold ixV at jP;by_cases hq:XQ alts p<alts.length;rotate_left
  .rw[if_neg hq]at jP;refine Es<|Lv 1 U<|Lo (kl U gB3 U) U<|Lv 1 U ?_;refine Lo (A7 U U (by kernel_rfl) U (jP)) U<|Lw U<|Es<|Lv 2 U ?_;refine An U U (by kernel_rfl) U U U U (Fo DK ?_);exact⟨U,hPn p ps h1 h2 U (by rw[MN,dif_neg hq]) _ (CL.u cB) (Ch.u lB)⟩
  rw[if_pos hq]at jP;generalize hqe:XQ alts p=q at*;refine Es<|Lv 1 U<|Lo (kl U gB3 U) U<|Lv 1 U ?_;refine Lo (A7 U U (by kernel_rfl) U (jP)) U<|Lw U<|Es<|Lv 2 U ?_;refine Lo (kc U (GY)) U<|Ld ?_;refine Cu.sub (l':=[(6,.int .i64 (q:Nat)),(5,.J s1.a 0),(4,.J b (0+m*(5+1))),(3,.J s.u.a 0),(0,.J wb 0)]) ?_ (Ab (by repeat' constructor));clear jP;have yV:sB.b.g b=some (.J ((l.zip la).flatMap (Ct c9)) 161 true):=(hB b eN hbw).trans vg;have gB5k:=fun(_:True)=>zP;clear zP;refine Ad (by kernel_rfl)<|Nv 3 U ?_;have zP:=gB5k trivial;clear gB5k;have hne5:s1.a≠b:=fun e=>by rw[e,yV]at zP;simp at zP
  refine Dl U LJ D9 U zP U (PS p) U U (.inl U) U U<|Nv 2 U ?_;have e1:(Ct c9 (l.zip la)[m]).set 2 (.bool true)=Ct c9 ({l[m]with b:=true},la[m]'(by rw[rA.a];exact hm)):=by rw[e0];rfl
  refine Ea (by omega) U u3 U U yV U U (GL (fun _=>rfl) 2 vh (by decide) e1) U (J6 (by kernel_rfl)) (fun e he=>by rw[Qp.1 he];exact .inr hne5) (.inl U) U U ?_;refine Cz.named fun sC dG=>?_;replace dG:sC=bj sB b (some (.J (((l.zip la).set m ({l[m]with b:=true},la[m]'(by rw[rA.a];exact hm))).flatMap (Ct c9)) 161 true)):=dG;have gC:sC.b.g b=some (.J (((l.zip la).set m ({l[m]with b:=true},la[m]'(by rw[rA.a];exact hm))).flatMap (Ct c9)) 161 true):=by rw[dG];exact VY.trans (if_pos rfl)
  have hmC:m<((l.zip la).set m ({l[m]with b:=true},la[m]'(by rw[rA.a];exact hm))).length:=by rw[List.length_set];exact vh
  have e2:(Ct c9 (((l.zip la).set m ({l[m]with b:=true},la[m]'(by rw[rA.a];exact hm)))[m]'hmC)).set 3 (.int .i64 3)=Ct c9 ({l[m]with b:=true,op:=3},la[m]'(by rw[rA.a];exact hm)):=by rw[List.getElem_set_self];rfl
  have nC:sC.a=sB.a:=by rw[dG];rfl
  refine Nv 2 U ?_;refine Ea (by omega) U sz_37 U U gC U U (GL (fun _=>rfl) 3 hmC (by decide) e2) (AH (by kernel_rfl)) (J6 (by kernel_rfl)) (fun e he=>by rw[Qp.1 he];exact .inr hne5) (.inl U) U U ?_;rw[List.set_set];refine Cz.named fun sD ix=>?_;replace ix:sD=bj sC b (some (.J (((l.zip la).set m ({l[m]with b:=true,op:=3},la[m]'(by rw[rA.a];exact hm))).flatMap (Ct c9)) 161 true)):=ix;have gD:sD.b.g b=some (.J (((l.zip la).set m ({l[m]with b:=true,op:=3},la[m]'(by rw[rA.a];exact hm))).flatMap (Ct c9)) 161 true):=by rw[ix];exact VY.trans (if_pos rfl)
  have hmD:m<((l.zip la).set m ({l[m]with b:=true,op:=3},la[m]'(by rw[rA.a];exact hm))).length:=by rw[List.length_set];exact vh
  have e3:(Ct c9 (((l.zip la).set m ({l[m]with b:=true,op:=3},la[m]'(by rw[rA.a];exact hm)))[m]'hmD)).set 4 (.int .i64 p)=Ct c9 (Xy l[m] p l.length 0,la[m]'(by rw[rA.a];exact hm)):=by rw[List.getElem_set_self];rfl
  have nD:sD.a=sC.a:=by rw[ix];rfl
  refine Nv 2 U ?_;refine Ea (by omega) U D9 U U gD U U (GL (fun _=>rfl) 4 hmD (by decide) e3) (AH (by kernel_rfl)) (J6 (by kernel_rfl)) (fun e he=>by rw[Qp.1 he];exact .inr hne5) (.inl U) U U ?_;rw[List.set_set];refine Cz.named fun sE oW=>?_;replace oW:sE=bj sD b (some (.J (((l.zip la).set m (Xy l[m] p l.length 0,la[m]'(by rw[rA.a];exact hm))).flatMap (Ct c9)) 161 true)):=oW;have gE:sE.b.g b=some (.J (((l.zip la).set m (Xy l[m] p l.length 0,la[m]'(by rw[rA.a];exact hm))).flatMap (Ct c9)) 161 true):=by rw[oW];exact VY.trans (if_pos rfl)
  have cE:CL sB sE (fun d=>d=b):=by rw[oW];refine CL.g (o1:=fun d=>d=b) ?_ De (fun _ h=>h) (fun _ h=> .inl h) (by rw[cB.a];exact cB.d);rw[ix];refine CL.g (o1:=fun d=>d=b) ?_ De (fun _ h=>h) (fun _ h=> .inl h) (by rw[cB.a];exact cB.d);rw[dG];exact De
  have lE:Ch sB sE:=by rw[oW];refine Ch.g ?_ Fx;rw[ix];refine Ch.g ?_ Fx;rw[dG];exact Fx
  have nE:sE.a=sB.a:=by rw[oW];exact nD.trans nC
  clear dG ix oW gC gD e1 e2 e3 nC nD hmC hmD;refine Cz.done<|Sq ?_;refine Cu.sub (l':=[(6,.int .i64 (q:Nat)),(5,.J s1.a 0),(4,.J b (0+m*(5+1))),(3,.J s.u.a 0),(0,.J wb 0)]) ?_ (Ab (by repeat' constructor));have hE:∀d,d<sB.a->d≠b->sE.b.g d=sB.b.g d:=fun d hd Yh=>cE.b d hd Yh;have wE:YQ sE wb c at_ (.Z b 0 l.length (5+1) none) ps mb left:=wB.CQ (by omega) (hE wb wB.2 (fun e=>hbw e.symm));have wE':=wE.1;unfold cT at wE';have gE3:=(hE s.a (by omega) (fun e=>by rw[e,yV]at gB3;simp at gB3)).trans gB3;have gE5:=(hE s1.a (by omega) (fun e=>by rw[e,yV]at zP;simp at zP)).trans zP;have hyes:alts[q].1=p:=by subst hqe;exact Ka hq
  obtain⟨pn,rfl⟩:∃pn:Nat,p=pn:=⟨p.toNat,by have:=hcon _ (Ql hq);omega⟩
  have hpn:pn<c.b.length:=by have:=hcon _ (Ql hq);omega
  have uh:=Af Av hpn;have harp:=uC _ (Ql hpn);obtain⟨ar,eM⟩:∃ar:Nat,c.b[pn].2=ar:=⟨c.b[pn].2.toNat,by omega⟩
  have sU:(g_ c.b (pn:Int)).toNat=ar:=by unfold g_;rw[Int.toNat_natCast,Ao hpn,eM];rfl
  unfold Ok at uh;rw[eM]at uh harp;refine Ad (by kernel_rfl)<|Nv 5 U ?_;iterate 2 refine Nm U ‹_› U (.inl U) U ?_
  refine Nq (kv U uh) U<|Nw U<|Sb ?_;have qy:la[m]'(by rw[rA.a];exact hm)= .Ca:=by
   have:=(rA.args m hm (by rw[rA.a];exact hm)).2 h2;rw[hnil h2 h1]at this;exact this.zero.1
  rw[qy]at gE;have bE:sE.c=s.a:=cE.a.trans cB.a;refine Ai (fun x:Nat×AV×St=>([(77,.int .i64 (x.1:Nat)),(76,.int .i64 (ar:Nat)),(6,.int .i64 (q:Nat)),(5,.J s1.a 0),(4,.J b (0+m*(5+1))),(3,.J s.u.a 0),(0,.J wb 0)],x.2.2)) (fun x=>ar-x.1)
   (fun x=>x.1<=ar/\CL sE x.2.2 (fun d=>d=b)/\Ch sE x.2.2/\x.2.2.b.g b=some (.J (((l.zip la).set m (Xy l[m] pn l.length x.1,x.2.1)).flatMap (Ct c9)) 161 true)/\a_ x.2.2 3 1 x.2.1 (((List.range x.1).map fun j=>((l.length+j:Nat):Int)).flatMap CN) x.1/\∀d,CB d x.2.1=true->sE.a<=d)
   (0,.Ca,sE) ⟨Qo _,CL.A,Ch.A,gE,a_.nil _ _ _,fun d h=>by cases h⟩ rfl (Ab (by repeat' constructor)) ?_
  rintro⟨i,a,st⟩ ⟨hi,cI,lI,gI,gS,oI⟩;dsimp only at hi cI lI gI gS oI|-;have nI:=cI.d;have wI:YQ st wb c at_ (.Z b 0 l.length (5+1) none) ps mb left:=wE.CQ nI (cI.b wb wE.2 (fun e=>hbw e.symm));have wI':=wI.1;unfold cT at wI';have hmI:m<((l.zip la).set m (Xy l[m] pn l.length i,a)).length:=by rw[List.length_set];exact vh
  have ld5:Wq (EK W1) 26 st (.J b (0+m*(5+1)+5))=some a:=AA OE Iy gI (by rw[show 0+m*(5+1)+5=m*6+5 by omega,F8 (fun _=>rfl) hmI (by decide),List.getElem_set_self];rfl);have hlr:aQ (.Z b 0 l.length (5+1) none)=some (.int .i64 (l.length:Nat)):=rfl;have qy:=gS.len;have hoa:CB b a=false:=by
   cases h:CB b a with
   |false=>rfl
   |true=>exact absurd h (Fp gS gI (by decide))
  have hbst:b<st.a:=by omega
  have hbnI:st.c<=st.a:=by rw[cI.a,bE];omega
  by_cases C5:i<ar
  .focus
    refine Ew U<|Sq ?_;refine Cd U (fun h3=>?_) (fun h3=>?_);refine Sk<|Sq<|Sb<|AK (by kernel_rfl)<|Nv 4 U<|B9 U U ld5 U (.inl U) U U<|Nv 3 U<|Nm U wI' U (.inl U) U<|Nv 4 U<|B9 U U ld5 U (.inl U) U U<|Nq (kn U qy) U ?_;refine Nq (ka U (by omega)) U ?_;refine AI U I1 D9 qZ U U U (.inl U) U U ?_;rotate_left;exact absurd h3 (by omega)
   refine ED (new:=[.int .i64 ((l.length+i:Nat):Int)]) gS hbnI U (by decide) (A3 (by omega) (by decide)) (A3 (by omega) (by decide)) U U U U I1 D9 u4 qZ (by kernel_rfl) (by kernel_rfl) U U (by kernel_rfl) (by kernel_rfl) (.inl U) U U fun v2 s2 dA g2 o2 c2 l2 Y8=>?_;refine Nv 2 U ?_;have g2b:=(c2.b b hbst (by rw[hoa];exact fun h=>by cases h)).trans gI;have fU:v2.g=[v2]/\v2.u=false:=by rcases g2 with⟨rfl,_⟩|⟨_,rfl,_⟩<;>exact⟨rfl,rfl⟩
   have e5:(Ct c9 (((l.zip la).set m (Xy l[m] pn l.length i,a))[m]'hmI)).set 5 v2=Ct c9 (Xy l[m] pn l.length (i+1),v2):=by rw[List.getElem_set_self];rfl
   have n2:=c2.d;refine B8 (by omega) U Iy U U g2b (by rw[fU.1];rfl) fU.2 (by rw[fU.1];exact GL (fun _=>rfl) 5 hmI (by decide) e5) (Y8 b hbst hoa _ (AH (by kernel_rfl))) (by kernel_rfl) (.inl U) U U ?_;rw[List.set_set];refine Cz.done<|Sr ?_;refine Lq (ka (b:=1) U (by omega)) U ?_;refine Lw U ?_;have hbE:sE.c<=sE.a:=by rw[bE];omega
   refine⟨(i+1,v2,bj s2 b (some (.J (((l.zip la).set m (Xy l[m] pn l.length (i+1),v2)).flatMap (Ct c9)) 161 true))),⟨C5,(cI.g c2 (own:=fun d=>d=b) (fun _ h=>h) (fun d h=> .inr (oI d h)) hbE).g De (fun _ h=>h) (fun d h=> .inl h) hbE,(lI.g l2).g Fx,VY.trans (if_pos U),?_,fun d h=>Nat.le_trans nI (o2 d h)⟩,by show ar-(i+1)<ar-i;omega,rfl,rfl,Ab (by repeat' constructor)⟩;show a_ (bj s2 b _) 3 1 v2 (((List.range (i+1)).map fun j=>((l.length+j:Nat):Int)).flatMap CN) (i+1);rw[List.range_succ,List.map_append,List.flatMap_append];exact g2.CQ (Qj _) fun d hd=>VY.trans (if_neg fun e=>by have:=o2 d hd;omega)
  .obtain rfl:i=ar:=by omega
   have gI3:=(cI.b s.a (by omega) (fun e=>by rw[e,gE]at gE3;simp at gE3)).trans gE3;have hlaI:m<la.length:=by rw[rA.a];exact hm
   have rI:YF st 161 c9 (.Z b 0 l.length (5+1) none) (l.set m (Xy l[m] pn l.length i)) (la.set m a):=by
    refine⟨by rw[List.length_set,List.length_set,rA.a],?_,fun j hj hj'=>?_⟩
    .rw[<-Tu,List.length_set];exact .inr ⟨b,rfl,hbst,gI,by rw[AR (fun _=>rfl),List.length_set,List.length_zip,rA.a,Nat.min_self],by omega⟩
    .rw[List.length_set]at hj hj';by_cases hjm:m=j
     .subst hjm;rw[List.getElem_set_self,List.getElem_set_self];have hg:a_ st 3 1 a ((Xy l[m] pn l.length i).args.flatMap CN) (Xy l[m] pn l.length i).args.length:=by
       show a_ st 3 1 a (((List.range i).map fun j=>((l.length+j:Nat):Int)).flatMap CN) ((List.range i).map _).length;rw[Qn,List.length_range];exact gS
      exact⟨.inr hg,fun _=>hg⟩
     .rw[List.getElem_set_ne hjm,List.getElem_set_ne hjm];refine(rB.args j hj hj').CQ (by omega) fun d cs hd hg=>?_;have hdb:d≠b:=fun e=>by rw[e,yV]at hg;simp at hg
      exact(cI.b d (by omega) hdb).trans (hE d hd hdb)
   have htq:∃tq:Nat,alts[q].2=tq:=⟨alts[q].2.toNat,by have:=htg _ (Ql hq);omega⟩
   obtain⟨tq,htq⟩:=htq;have hxa:=Af BE hq;unfold Y9 at hxa;rw[htq]at hxa;have oG:Z3 alts (pn:Int)=some (tq:Int):=by
    rw[MN];simp only[hqe];rw[dif_pos hq,htq]
   have hK:=hR pn ps tq h1 h2 rfl oG;rw[sU,Int.toNat_natCast]at hK;have cSt:CL s.u st (fun d=>d=wb\/CB d (.Z b 0 l.length (5+1) none)=true):=(cB.g (FY cE (o2:=fun d=>d=wb\/CB d (.Z b 0 l.length (5+1) none)=true) fun d h=> .inr (by rw[h];exact Nat.beq_refl b)) (fun _ h=>h) (fun _ h=> .inl h) (Qj _)).g (FY cI (o2:=fun d=>d=wb\/CB d (.Z b 0 l.length (5+1) none)=true) fun d h=> .inr (by rw[h];exact Nat.beq_refl b)) (fun _ h=>h) (fun _ h=> .inl h) (Qj _);have lSt:Ch s.u st:=(lB.g lE).g lI;have qI:s.a≠b:=fun e=>by rw[e,gI]at gI3;simp at gI3
   focus
    refine Ew U<|Sq ?_;refine Cd U (fun h3=>?_) (fun h3=>?_);exact absurd h3 (by omega);refine Sx<|A0 U<|Es<|Lv 4 U<|Lo (AQ U U ld5) U<|Lq (kn U qy) U ?_;rotate_left
   by_cases h0:i=0
   .subst h0;refine Lq (Dn U s8 G8 LG Pa U U U) U ?_;refine CA.named fun sM jk=>?_;have cM:CL st sM (fun d=>d=wb\/CB d (.Z b 0 l.length (5+1) none)=true):=by rw[jk];exact CL.A
    have lM:Ch st sM:=by rw[jk];exact Ch.A
    have hM:∀d,d<st.a->sM.b.g d=st.b.g d:=fun d hd=>congrArg (fun s=>s.b.g d) jk;have nM:=cM.d;have hyM:CY sM 6 .Ca=some ((List.replicate 0 (C8.g,AV.Ca)).flatMap (Ct c9),(List.replicate 0 (C8.g,AV.Ca)).length):=rfl;clear jk;refine An U U (by kernel_rfl) U U U U (FJ (wI.CQ nM (hM wb wI.2)) (rI.g nM fun d hd _=>hM d hd) hyM (fun p hp=>by rw[List.eq_of_mem_replicate hp];exact⟨.inr (a_.nil _ _ _),fun _=>a_.nil _ _ _⟩) (by rw[List.length_set,List.length_replicate];omega) fun s3 v3 c3 w3 r3 o3 l3=>?_);have gM3:=(c3.b s.a (by omega) (fun h=>h.elim (fun h=>by omega) fun h=>qI (Qb h).symm)).trans ((hM s.a (by omega)).trans gI3);have uG:=w3.1;unfold cT at uG;refine Ld<|Sr<|Lv 2 U<|Lo (kl U gM3 U) U<|qm U<|Lq (kv U hxa) U<|Lv 4 U<|Ln (kw U uG U) U<|Ld<|Ew U<|Se ?_
    have c5:=(cSt.g cM (fun _ h=>h) (fun _ h=> .inl h) (Qj _)).g c3 (fun _ h=>h) (fun _ h=> .inl h) (Qj _);have r4:=r3;rw[List.map_replicate]at r4;exact⟨.inl U,rfl,true,Ac U U,fun h=>absurd h (BB (.inr (by rw[c5.a];exact hb))),G9 hK c5 ((lSt.g lM).g (l3 (by rw[cM.a];omega))) w3 r4 fun d hd=>(o3 d hd).imp id fun h=>by omega⟩
   .refine Lo (D8 U s8 G8 LG Pa U U U h0 (A3 (by omega) (by decide))) U ?_;refine CA.named fun sM jk=>?_;have cM:CL st sM (fun d=>d=wb\/CB d (.Z b 0 l.length (5+1) none)=true):=by rw[jk];exact CL.z
    have lM:Ch st sM:=by rw[jk];exact Ch.z hbnI
    have hM:∀d,d<st.a->sM.b.g d=st.b.g d:=fun d hd=>by rw[jk];exact Ap hd
    have nM:=cM.d;have hyM:CY sM 6 (.Z st.a 0 i 6 (some i))=some ((List.replicate i (C8.g,AV.Ca)).flatMap (Ct c9),(List.replicate i (C8.g,AV.Ca)).length):=by
     rw[jk,List.length_replicate,<-E1 (x:=(C8.g,.Ca)) rfl];exact Iu Ax (by rw[E1 (x:=(C8.g,.Ca)) U,AR (fun _=>rfl),List.length_replicate])
    clear jk;refine An U U (by kernel_rfl) U U U U (FJ (wI.CQ nM (hM wb wI.2)) (rI.g nM fun d hd _=>hM d hd) hyM (fun p hp=>by rw[List.eq_of_mem_replicate hp];exact⟨.inr (a_.nil _ _ _),fun _=>a_.nil _ _ _⟩) (by rw[List.length_set,List.length_replicate];omega) fun s3 v3 c3 w3 r3 o3 l3=>?_);have gM3:=(c3.b s.a (by omega) (fun h=>h.elim (fun h=>by omega) fun h=>qI (Qb h).symm)).trans ((hM s.a (by omega)).trans gI3);have uG:=w3.1;unfold cT at uG;refine Ld<|Sr<|Lv 2 U<|Lo (kl U gM3 U) U<|qm U<|Lq (kv U hxa) U<|Lv 4 U<|Ln (kw U uG U) U<|Ld<|Ew U<|Se ?_;have c5:=(cSt.g cM (fun _ h=>h) (fun _ h=> .inl h) (Qj _)).g c3 (fun _ h=>h) (fun _ h=> .inl h) (Qj _);have r4:=r3;rw[List.map_replicate]at r4
    exact⟨.inl U,rfl,true,Ac U U,fun h=>absurd h (BB (.inr (by rw[c5.a];exact hb))),G9 hK c5 ((lSt.g lM).g (l3 (by rw[cM.a];omega))) w3 r4 fun d hd=>(o3 d hd).imp id fun h=>by omega⟩
end
theorem Gu {x:X8} {o n:Int} {l:List Int} (h:CO x= .O o n l):o=x.c/\n=x.n:=by
 unfold CO at h;split at h
 .cases h
 .split at h
  .cases h
  .split at h
   .cases h
   .split at h
    .cases h
    .split at h
     .cases h;exact⟨rfl,rfl⟩
     .split at h<;>cases h
section
variable {s : St} {wb : Nat} {c : Cj} {at_ : Nat} {v : AV} {Cc : List Int} {mb : Nat} {left : Int} {l : List C8} {la : List AV} {R RP : AV -> St -> Prop}
theorem yW (hc:ZT c) (hS:oN c S) (ok:gQ c S ⟨at_,l,Cc⟩) (h:YQ s wb c at_ v Cc mb left) (hr:YF s 161 c9 v l la) (pX:Cc.length<=4000)
 (bG:∀t,Xh c ⟨at_,l,Cc⟩= .Y t->oV s wb c v mb left R t) (Xn:Xh c ⟨at_,l,Cc⟩= .O->∀s',CL s s' (fun _=>False)->(s.c<=s.a->Ch s s')->R (.bool false) s')
 (Za:∀e,Xh c ⟨at_,l,Cc⟩= .J e->kA s wb v RP e):VX (EK W1) 41 [.J wb 0] s R RP:=by
 have hk:at_<c.a.length:=ok.b;have hx:Y6 c at_=c.a[at_]:=B2 hk;have W6:=hc.g hk;have ig:l.length<=60:=ok.e;have hlong:=hc.I;have h0:0<=oA S at_:=by have:=ok.a;rw[show(⟨at_,l,Cc⟩:Z0).a=at_ from rfl]at this;rw[this];exact Int.natCast_nonneg _
 have Xd:=hS.a at_ hk h0;rw[hx,show oA S at_=(l.length:Nat)from ok.a]at Xd;have fq:=hc.a.a _ (Ql hk);have oG:=hc.a.f _ (Ql hk);have tp:=AY c at_ c.a[at_];rw[W6]at tp;obtain⟨h1,h2,h3,h4,h5,h6⟩:=FG (x:=c.a[at_]);unfold Xh at bG Xn Za;simp only[hx]at bG Xn Za;rcases hs:CO c.a[at_]with⟨r,al⟩|to|_|_|⟨o,n',zl⟩|r|_
 .obtain⟨e,rfl,rfl⟩:=h1 r al hs;rw[Io e]at W6;simp only[Qf]at W6;have ha:=VW.1 W6.2.2.1;have yX:=W6.2.2.2;unfold XO at Xd;rw[if_pos (.inl e)]at Xd;have hm:c.a[at_].a.toNat<l.length:=by have:=dT Xd;omega
  rw[show c.a[at_].a=((c.a[at_].a.toNat:Nat):Int) by omega]at hs;have halt:∀a∈c.a[at_].b,(0<=a.1/\a.1<c.b.length)/\0<=a.2:=fun a ha=>by
   obtain⟨i,hi,rfl⟩:=List.mem_iff_getElem.1 ha;have Y0:=GJ (n:=c.a[at_].b.length) yX hi;unfold aS at Y0;rw[Ao hi]at Y0;simp only[Qf]at Y0;have q1:=VW.1 Y0.1.1;have q2:=VW.1 Y0.2;exact⟨by omega,by omega⟩
  have hokm:=ok.d c.a[at_].a.toNat hm;rw[if_pos e,Ao hm]at bG Xn Za;refine RL hk h hr hs hm ig pX fq (fun a ha=>(halt a ha).1) hc.z (fun h1 h2=>hokm.c (hokm.op.2 ⟨h2,.inl h1⟩)) (fun a ha=>(halt a ha).2) (fun p ps t q1 q2 q3 q4=>bG _ ?_) (fun p ps q1 q2 q3 q4=>Za 5 ?_) (fun q1 q2 q3=>Za 8 ?_) (fun q=>Za 5 ?_)
  .rw[if_neg (by rw[q1,q2];decide),q3];simp only[q4]
  .rw[if_neg (by rw[q1,q2];decide),q3];simp only[q4]
  .rw[if_neg (by rw[q1,q2];decide),q3]
  .rw[if_pos q]
 .obtain⟨e,rfl⟩:=h2 to hs;rw[Oc e]at W6;simp only[Qf]at W6;have htg:=W6.2.2.2;unfold Yv at htg;rw[Qf]at htg;rw[if_neg (by omega),if_pos e]at bG Xn Za;refine TD hk h hr hs oG pX (fun t ht=>?_) (fun p ps q1 q2=>bG _ ?_) (fun q1=>Za 8 ?_) (fun p ps q1 q2=>Za 5 ?_)
  .obtain⟨i,hi,rfl⟩:=List.mem_iff_getElem.1 ht;have Y0:=GJ (n:=c.a[at_].d.length) htg.1 hi;unfold bM at Y0;rw[Ao hi]at Y0;have:=VW.1 Y0;omega
  .rw[q1];dsimp only;rw[if_pos q2]
  .rw[q1]
  .rw[q1];dsimp only;rw[if_neg (by rw[q2];decide)]
 .have e:=h3 hs;refine RN hk h hs (Za 5 ?_);rw[if_neg (by omega),if_neg (by omega),if_pos e]
 .have e:=h4 hs;refine RM hk h hr hs ig (by omega) (bG _ ?_);rw[if_neg (by omega),if_neg (by omega),if_neg (by omega),if_pos e]
 .obtain⟨e,rfl⟩:=h5 _ _ _ hs;obtain⟨rfl,rfl⟩:=Gu hs;refine RK hk h hr hs ig (by omega) (bG _ ?_);rw[if_neg (by omega),if_neg (by omega),if_neg (by omega),if_neg (by omega),if_pos e]
 .obtain⟨e,rfl⟩:=h6 r hs;refine Pi hk h hs (fun hp=>Xn ?_) (fun hp=>Za 8 ?_)
  .rw[if_neg (by omega),if_neg (by omega),if_neg (by omega),if_neg (by omega),if_neg (by omega),hp]
  .rw[if_neg (by omega),if_neg (by omega),if_neg (by omega),if_neg (by omega),if_neg (by omega)];cases Cc with
   |nil=>exact absurd rfl hp
   |cons p ps=>rfl
 .rw[hs]at tp;cases tp
end
end Go.Proofs.YtpihdbhocgcbpaaGreatDoor.Wy
open Go Am
namespace Am
variable {ts:List TypeId} {es:List XA} {x:Operand}
theorem Gf {E:c_} {fr:Fr} {l:Sl} {s:St} {o:Oper} {c:Call} {t k e:TypeId} {b clock:Nat} (ho:o.op= .call c) (hc:c.callee= .builtin .len) (ht:c.argTypes.toList=t::ts) (ha:c.args.toList=[x]) (hu:Wb E t=some (.map k e)) (hx:Cg x l=some (.bW b))
 (hg:s.b.g b=some (.Y es clock)):Zl E o fr l s (.int .i64 (es.length:Nat)) s:=fun T hT=>
 H0 (x:=Ci E x) (f:=fun T s=>(Ci E x T).bind (Am.pq s)) (by
  rw[ho];show Wo E o.type c=_;unfold Wo;rw[hc];simp only;rw[ht,ha];show pr E t x=_;unfold pr;rw[hu]) (by
  simp only[Ae hT hx,Qe];unfold Am.pq;show((eS (s.b.g b)).bind _)=_;rw[hg];show some (AV.int .i64 (Xu es))=_;rw[DT])
end Am
namespace Go.Proofs.YtpihdbhocgcbpaaGreatDoor.Wy
variable {fn:Func} {f:FuncId} {d:Int} {args:List AV} {nm:List Nat} {rs:List ResultVar} {a:List Zz} {r:Nat}
theorem Ox:∀(k:Nat) (l:List Nat) (r:Nat),ZH k (l++[r])=ZH k l++[(.int .i64 (r:Nat),.int .i64 ((k+l.length:Nat):Int),k+l.length)]
 |k,[],r=>rfl
 |k,a::l,r=>by
  show(AV.int .i64 (a:Nat),AV.int .i64 (k:Nat),k)::ZH (k+1) (l++[r])=_;rw[Ox (k+1) l r];show _=(AV.int .i64 (a:Nat),AV.int .i64 (k:Nat),k)::(ZH (k+1) l++[(.int .i64 (r:Nat),.int .i64 ((k+(l.length+1):Nat):Int),k+(l.length+1))])
  rw[show k+1+l.length=k+(l.length+1) by omega]
theorem F5:∀(k:Nat) (l:List Nat),(ZH k l).length=l.length
 |_,[]=>rfl
 |k,a::l=>congrArg (· +1) (F5 (k+1) l)
theorem HQ (r:Nat):∀(k:Nat) (l:List Nat),Yo (.J (.int .i64)) (.int .i64 (r:Nat)) (ZH k l)=some (if r∈l then some (.int .i64 (r:Nat),.int .i64 ((k+l.idxOf r:Nat):Int),k+l.idxOf r)else none)
 |k,[]=>rfl
 |k,a::l=>by
  have ih:=HQ r (k+1) l;show(some (decide ((r:Int)=(a:Nat)))).bind _=_;by_cases h:r=a
  .simp_all
  .rw[decide_eq_false (by omega),Qe,ih];by_cases hm:r∈l
   .grind
   .grind
def aN (s:St) (mb:Nat) (nm:List Nat):Prop:=s.b.g mb=some (.Y (ZH 0 nm) nm.length)/\mb<s.a
theorem U0 {s:St} {mb:Nat} (h:aN s mb nm) (r:Nat):ck (.J (.int .i64)) s true (.int .i64 0) (.bW mb) (.int .i64 (r:Nat))=some (.Y [.int .i64 (if r∈nm then((nm.idxOf r:Nat):Int)else 0),.bool (decide (r∈nm))]):=by
 show((eS (s.b.g mb)).bind fun es=>(Yo _ _ es).bind fun r=>some (eX true (.int .i64 0) r))=_;rw[h.1];show(Yo _ _ (ZH 0 nm)).bind _=_;rw[HQ,Qe,Nat.zero_add];by_cases hm:r∈nm
 .rw[if_pos hm,if_pos hm,decide_eq_true hm];rfl
 .rw[if_neg hm,if_neg hm,decide_eq_false hm];rfl
theorem yY {s:St} {mb:Nat} (h:aN s mb nm) (hr:r∉nm):cm (.J (.int .i64)) s (.int .i64 (r:Nat)) (.int .i64 (nm.length:Nat)) (.bW mb)=some (s.z mb (some (.Y (ZH 0 (X6 nm r)) (X6 nm r).length))):=by
 show cY (.J (.int .i64)) s mb (.int .i64 (r:Nat)) (.int .i64 (nm.length:Nat)) (s.b.g mb)=_;rw[h.1];show(Yo _ _ (ZH 0 nm)).bind _=_;rw[HQ,if_neg hr,Qe];unfold X6;rw[if_neg hr,Ox,Nat.zero_add,Qm];rfl
theorem LM {K:FuncId->List AV->Option AV} {c:Code} {s:St} {R RP:AV->St->Prop} {fr:Fr} {l0:Sl} (hm:K f args=none) (hz:(EK K).g f=1) (hf:(EK K).a.g f=some fn) (hc:fn.body=some c) (hr:fn.results.toList=rs)
 (Z6:n_ fn.ntmps args none=fr) (hl:YW 0 args []=l0) (h:Cu (EK K) c fr l0 s.u fun ex fr l st=>match ex with
  | .O v=>fr.defers=[]/\RP v (s.G st)
  |ex=>(ex= .Y\/ex= .J)/\fr.defers=[]/\∃n,CK (EK K) st l rs=some [.int .i64 n]/\(st.d=[]->R (.int .i64 n) s)/\R (.int .i64 n) (s.G st)):VX (EK K) f args s R RP:=by
 refine VX.gen hm hf hc hr Z6 hl (Cu.mono h fun ex fr l st hq=>?_);have key:(ex= .Y\/ex= .J)/\fr.defers=[]/\(∃n,CK (EK K) st l rs=some [.int .i64 n]/\(st.d=[]->R (.int .i64 n) s)/\R (.int .i64 n) (s.G st))->cH (EK K) f rs s R ex fr l st:=fun⟨h1,h2,r,h3,h4,h5⟩=>
  ⟨h1,st,by rw[h2];rfl,[.int .i64 r],h3,Fz hz (fun _ _=>rfl) (fun _=>rfl) h4 fun _=>h5⟩
 cases ex with
 |O v=>exact hq
 |J=>exact key hq
 |Y=>exact key hq
 |Z i=>exact key hq
theorem NQ {s:St} {wb:Nat} {c:Cj} {at_:Nat} {v:AV} {Cc:List Int} {mb:Nat} {left:Int} (h:YQ s wb c at_ v Cc mb left) (hm:aN s mb nm) (hn:nm.length<=4000) {R RP:AV->St->Prop}
 (hR:∀s',CL s s' (fun d=>d=mb)->s'.a=s.a->aN s' mb (X6 nm r)->(s.c<=s.a->Ch s s')->if((nm.idxOf r:Nat):Int)<20 then R (.int .i64 (nm.idxOf r:Nat)) s' else RP (bN 3) s'):VX (EK W1) 87 [.J wb 0,.int .i64 (r:Nat)] s R RP:=by
 obtain⟨hg,hb⟩:=h;refine LM (fn:=Tryz.f87) U (by kernel_rfl) (by kernel_rfl) U U U U ?_;have Yw:s.u.b.g wb=some (.J (cT c at_ v Cc mb left) 87 false):=hg;unfold cT at Yw;have hmE:aN s.u mb nm:=hm;have bJ:=U0 hmE r;by_cases hr:r∈nm
 .rw[if_pos hr,decide_eq_true hr]at bJ;have ea:X6 nm r=nm:=by unfold X6;rw[if_pos hr]
  rw[ea]at hR;have hR1:=hR s CL.A rfl hm fun _=>Ch.A;have jn:=hR (s.G s.u) (CL.u CL.A) rfl hm fun hb=>Ch.u Ch.A hb;focus
   refine Ew U<|Es<|Lv 3 U<|Lo (kl U Yw U) U<|qm U<|Lo (Dm U OZ qZ nu U U bJ) U<|Lw U<|Sq<|Ew U<|Tf U<|Sk<|Es<|Lv 2 U ?_;refine By (k:=30) U (fun g1=>?_) (fun g1=>?_);have h1:=dT g1;refine Lo (kc U (GY)) U<|Ld<|Ew U ?_;rotate_left;have h1:=dF g1;refine An U U (by kernel_rfl) U U U U (Fo DK ?_);rotate_left
  .rw[if_pos h1]at hR1 jn;refine Se ?_;exact⟨.inl U,rfl,_,Ac U U,fun _=>hR1,jn⟩
  .rw[if_neg h1]at jn;exact⟨U,jn⟩
 .rw[if_neg hr,decide_eq_false hr]at bJ;have ei:nm.idxOf r=nm.length:=List.idxOf_eq_length hr;have hp:=yY hmE hr;have hlen:(ZH 0 nm).length=nm.length:=F5 0 nm;rw[ei]at hR;refine Ew U<|Es<|Lv 3 U<|Lo (kl U Yw U) U<|qm U<|Lo (Dm U OZ qZ nu U U bJ) U<|Lw U<|Sq<|Ew U<|Tt U<|Es<|Lv 3 U<|Lo (kl U Yw U) U<|Lo (Gf U U U U OZ U hmE.1) U ?_;rw[hlen];have jn:=hR (s.G (s.u.z mb (some (.Y (ZH 0 (X6 nm r)) (X6 nm r).length)))) (CL.u CL.B) rfl ⟨Ah.trans (if_pos rfl),hm.2⟩ (Ch.u Ch.B);focus
   refine Lw U<|Sr<|Lv 3 U<|Lo (kl U Yw U) U<|Lv 2 U<|Ln (Ge (.inl U) OZ nu U U U hp) U<|Ld<|Es<|Lv 2 U ?_;refine By (k:=30) U (fun g1=>?_) (fun g1=>?_);have h1:=dT g1;refine Lo (kc U (GY)) U<|Ld<|Ew U ?_;rotate_left;have h1:=dF g1;refine An U U (by kernel_rfl) U U U U (Fo DK ?_);rotate_left
  .rw[if_pos h1]at jn;refine Se ?_;exact⟨.inl U,rfl,_,Ac U U,fun h=>absurd h (BB (.inr hm.2)),jn⟩
  .rw[if_neg h1]at jn;exact⟨U,jn⟩
theorem N3 {t:Zz} {l:Int} :eh (a++[t]) l d nm=match eh a l d nm with
 |none=>none
 |some (ks,l2,mU)=>match nK t l2 d mU with
  |none=>none
  |some (k,l3,nm3)=>some (ks++[k],l3,nm3):=by
 induction a generalizing l nm with
 |nil=>grind [eh]
 |cons u a ih=>grind [eh]
theorem Uf {b:List Zz} {l:Int} (h:eh a l d nm=none):eh (a++b) l d nm=none:=by
 induction a generalizing l nm with
 |nil=>rw[eh]at h;cases h
 |cons u a ih=>grind [eh]
theorem FZ {hd:C8->List AV} (ny:∀r,(hd r).length=5):∀ {L:List (C8×AV)} {m:Nat} (hm:m<L.length),((L.flatMap (Ct hd)).drop (m*6)).take 6=Ct hd L[m]
 |p::L,0,_=>by
  have hl:(Ct hd p).length=6:=by simp_all [Qm,Ct]
  rw[List.flatMap_cons,Nat.zero_mul,List.drop_zero,List.take_append_of_le_length (by omega),List.take_of_length_le (by omega)];rfl
 |p::L,m+1,hm=>by
  have hl:(Ct hd p).length=6:=by simp_all [Qm,Ct]
  rw[List.flatMap_cons,show(m+1)*6=(Ct hd p).length+m*6 by omega,<-List.drop_drop,List.drop_left,FZ ny (L:=L) (Nat.lt_of_succ_lt_succ hm)];rfl
end Go.Proofs.YtpihdbhocgcbpaaGreatDoor.Wy
