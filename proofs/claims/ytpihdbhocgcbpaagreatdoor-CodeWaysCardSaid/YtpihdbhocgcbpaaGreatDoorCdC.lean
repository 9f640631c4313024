/- Code: terms. -/
import Derived.Test.YtpihdbhocgcbpaaGreatDoorCdA
import Derived.Test.YtpihdbhocgcbpaaGreatDoorCdB
set_option linter.unusedSectionVars false
set_option linter.unusedVariables false
set_option linter.unusedSimpArgs false
open Go Am
namespace Am
variable {Q:Ex->Fr->Sl->St->Prop} {α:Type}
theorem DG {E:c_} {fr:Fr} {l:Sl} {s:St} {a b:Code} (I:α->Sl×St) (G:α->Prop) (h1:Cu E a fr l s fun ex Yx l' s'=>match ex with
 | .J=>Yx=fr/\∃x,G x/\s'=(I x).2/\∀p∈(I x).1,d_ p.1 l'=some p.2
 |ex=>Q ex Yx l' s') (h2:∀x,G x->Cu E b fr (I x).1 (I x).2 Q):Cu E a fr l s (uz E b Q):=
 (h1.mono fun ex Yx l' s' h=>by
  cases ex with
  |J=>
   obtain⟨e2,x,g,e3,e4⟩:=h;subst e2 e3;exact Cu.sub (h2 x g) e4
  |_=>exact h)
end Am
namespace Go.Proofs.YtpihdbhocgcbpaaGreatDoor
inductive Cp where
 |mk (op n:Int) (kids:List Cp)
def Cp.op:Cp->Int| .mk o _ _=>o
def Cp.n:Cp->Int| .mk _ n _=>n
def Cp.g:Cp->List Cp| .mk _ _ k=>k
mutual
def Cm:Cp->List AV
 | .mk o n ks=>[.int .i64 o,.int .i64 n,match ks with
  | []=> .Ca
  |t::ts=> .Ck (Cm t++qh ts) (ts.length+1) 3 true]
def qh:List Cp->List AV
 | []=>[]
 |t::ts=>Cm t++qh ts
end
mutual
def Xg:Cp->Nat
 | .mk _ _ ks=>X9 ks+1
def X9:List Cp->Nat
 | []=>0
 |t::ts=>max (Xg t) (X9 ts)
end
mutual
def WU:Cp->Int->Int->Int
 | .mk _ _ ks,l,d=>if l<1\/d<1 then-1 else Yl ks (l-1) (d-1)
def Yl:List Cp->Int->Int->Int
 | [],l,_=>l
 |t::ts,l,d=>if 0<=l then Yl ts (WU t l d) d else l
end
theorem JN:∀l:List Cp,qh l=l.flatMap Cm
 | []=>rfl
 |t::ts=>by rw[List.flatMap_cons,<-JN ts];rfl
def CI (l:List Cp):AV:=match l with
 | []=> .Ca
 |t::ts=>Cq Cm 3 (t::ts)
theorem A4 (t:Cp):Cm t=[.int .i64 t.op,.int .i64 t.n,CI t.g]:=by
 obtain⟨o,n,ks⟩:=t;cases ks with
 |nil=>rfl
 |cons t ts=>
  show [_,_,AV.Ck (Cm t++qh ts) _ _ _]=_;rw[JN];rfl
theorem JO (t:Cp):(Cm t).length=2+1:=by rw[A4];rfl
theorem FW:∀ {l:List Cp} {t:Cp},t∈l->Xg t<=X9 l
 |u::l,t,h=>by
  show Xg t<=max (Xg u) (X9 l);rcases Qk.1 h with rfl|h
  .exact Nat.le_max_left _ _
  .exact Nat.le_trans (FW h) (Nat.le_max_right _ _)
theorem EX (t:Cp):Xg t=X9 t.g+1:=by cases t;rfl
inductive WV:Cp->Prop
 |mk {o n:Int} {ks:List Cp}:ks.length<=4000->(∀t∈ks,WV t)->WV (.mk o n ks)
mutual
theorem QC:∀(t:Cp) (l d:Int),-1<=l->-1<=WU t l d/\WU t l d<=max l (-1)
 | .mk _ _ ks,l,d,h=>by
  unfold WU;split
  .omega
  .have:=Nc ks (l-1) (d-1) (by omega);omega
theorem Nc:∀(ts:List Cp) (l d:Int),-1<=l->-1<=Yl ts l d/\Yl ts l d<=l
 | [],l,d,h=>by
  unfold Yl;omega
 |t::ts,l,d,h=>by
  unfold Yl;split
  .have h1:=QC t l d h;have h2:=Nc ts (WU t l d) d h1.1;omega
  .omega
end
end Go.Proofs.YtpihdbhocgcbpaaGreatDoor
open Go Am
namespace Go.Proofs.YtpihdbhocgcbpaaGreatDoor
variable {l:List Cp} {d i:Nat}
theorem L9:∀ {a b:List Cp},a.flatMap Cm=b.flatMap Cm->(∀t∈a,∀u,Cm t=Cm u->t=u)->a=b
 | [],[],_,_=>rfl
 | [],u::b,h,_=>by rw[List.flatMap_cons,A4 u]at h;cases h
 |t::a,[],h,_=>by rw[List.flatMap_cons,A4 t]at h;cases h
 |t::a,u::b,h,ih=>by
  rw[List.flatMap_cons,List.flatMap_cons]at h;obtain⟨h1,h2⟩:=List.append_inj h (by rw[JO,JO]);rw[ih t (Qh ..) u h1,L9 h2 fun x hx=>ih x (Qg _ hx)]
theorem LA:∀(n:Nat) (t u:Cp),Xg t<=n->Cm t=Cm u->t=u
 |0,t,u,h,_=>by rw[EX]at h;omega
 |n+1,t,u,h,e=>by
  rw[EX]at h;rw[A4,A4]at e;obtain⟨o,m,ks⟩:=t;obtain⟨o',m',kF⟩:=u;simp only[List.cons.injEq,AV.int.injEq,true_and,and_true]at e;obtain⟨e1,e2,e3⟩:=e;have e1:o=o':=e1;have e2:m=m':=e2;have e3:CI ks=CI kF:=e3;have hk:∀t∈ks,∀u,Cm t=Cm u->t=u:=fun t ht u hu=>LA n t u (by have:=FW ht;have:X9 ks+1<=n+1:=h;omega) hu;have:ks=kF:=by
   cases ks with
   |nil=>cases kF with
    |nil=>rfl
    |cons u us=>cases e3
   |cons t ts=>cases kF with
    |nil=>cases e3
    |cons u us=>exact L9 (AV.Ck.inj e3).1 hk
  rw[e1,e2,this]
theorem BJ (t u:Cp) (h:Cm t=Cm u):t=u:=LA _ t u (Qj _) h
theorem Ek:aQ (CI l)=some (.int .i64 (l.length:Nat)):=by cases l<;>rfl
theorem Od (h:i<l.length):OK (2+1) i (CI l)=some (.XD (Cm l[i]++(l.drop (i+1)).flatMap Cm)):=by
 cases l with
 |nil=>cases h
 |cons t ts=>exact Af JO h
abbrev WgT (d:Nat):= {p:Cp×Int×Int//Xg p.1<=d/\WV p.1/\(-1<=p.2.1/\p.2.1<=1000)/\0<=p.2.2/\p.2.2<=1000}
noncomputable def KW:Nat->FuncId->List AV->Option AV
 |0=>U_
 |d+1=>WA (KW d) 88 (fun p:WgT (d+1)=>[.O (Cm p.1.1),.int .i64 p.1.2.1,.int .i64 p.1.2.2]) (fun p=> .int .i64 (WU p.1.1 p.1.2.1 p.1.2.2))
theorem UO {t:Cp} {l m:Int} (h:Xg t<=d) (hs:WV t) (hl: -1<=l/\l<=1000) (hm:0<=m) (pS:m<=1000):KW d 88 [.O (Cm t),.int .i64 l,.int .i64 m]=some (.int .i64 (WU t l m)):=by
 cases d with
 |zero=>rw[EX]at h;omega
 |succ d=>
  exact Ak (f:=88) (enc:=fun p:WgT (d+1)=>[.O (Cm p.1.1),.int .i64 p.1.2.1,.int .i64 p.1.2.2]) (res:=fun p=> .int .i64 (WU p.1.1 p.1.2.1 p.1.2.2)) (by
   rintro⟨⟨a,b,c⟩,_⟩ ⟨⟨a',b',c'⟩,_⟩ h;simp only[List.cons.injEq,AV.int.injEq,AV.O.injEq,true_and,and_true]at h;obtain⟨h1,rfl,rfl⟩:=h;obtain rfl:=BJ _ _ h1;rfl) ⟨(t,l,m),h,hs,hl,hm,pS⟩
theorem IL:∀ {ts:List Cp} {l d:Int},¬0<=l->Yl ts l d=l
 | [],_,_,_=>rfl
 |_::_,_,_,h=>by unfold Yl;rw[if_neg h]
theorem yu (d:Nat) (t:Cp) (l m:Int) (h:Xg t<=d+1) (hs:WV t) (hl: -1<=l/\l<=1000) (hm:0<=m) (pS:m<=1000):Co (EK (KW d)) 88 [.O (Cm t),.int .i64 l,.int .i64 m] S0 (.int .i64 (WU t l m)):=by
 have hx:KW d 88 [.O (Cm t),.int .i64 l,.int .i64 m]=none\/KW d 88 [.O (Cm t),.int .i64 l,.int .i64 m]=some (.int .i64 (WU t l m)):=by
  cases d with
  |zero=>exact .inl rfl
  |succ d=>
   by_cases hd:Xg t<=d+1
   .exact .inr (UO hd hs hl hm pS)
   .refine .inl (Hw fun p e=>hd ?_);obtain⟨⟨a,b,c⟩,hp⟩:=p;simp only[List.cons.injEq,AV.int.injEq,AV.O.injEq,true_and,and_true]at e;obtain⟨h1,rfl,rfl⟩:=e;obtain rfl:=BJ _ _ h1;exact hp.1
 rcases hx with hx|hx;rotate_left
 .exact Co.XF hx
 rw[A4]at hx|-;refine Dz (fn:=Tryz.f88) U hx (by kernel_rfl) U U U U ?_;obtain⟨o,n,ks⟩:=t;cases hs with
 |mk hk tM=>
 have hlen:=Ek (l:=ks);have hdk:X9 ks<=d:=by have:X9 ks+1<=d+1:=h;omega
 focus
  refine Eh U<|Sq<|Es<|Lv 3 U ?_;refine Bd U (fun h1=>?_) (fun h1=>?_);refine Lw U<|Tt U<|Ew U ?_;refine Se (Er U ?_);rotate_left;refine Lw U ?_;refine Cd U (fun h2=>?_) (fun h2=>?_);refine Ew U ?_;refine Se (Er U ?_);rotate_left;refine Sk<|Es<|qm U<|Lq (X3.sub U ey U U (by omega)) U<|Lw U<|Sq<|Ew U<|Sb ?_;rotate_left
 .show AV.int .i64 (-1)= .int .i64 (WU (.mk o n ks) l m);rw[WU,if_pos (.inl h1)]
 .show AV.int .i64 (-1)= .int .i64 (WU (.mk o n ks) l m);rw[WU,if_pos (.inr h2)]
 refine Ai (fun x:Nat×Int=>([(7,.int .i64 (x.1:Nat)),(1,.int .i64 x.2),(2,.int .i64 m),(3,.J 0 0)],Xc 1 0 [] [(0,some (.J [.int .i64 o,.int .i64 n,CI ks] 39 false))])) (fun x=>ks.length-x.1)
  (fun x=>x.1<=ks.length/\Yl ks (l-1) (m-1)=Yl (ks.drop x.1) x.2 (m-1)/\-1<=x.2/\x.2<=1000) (0,l-1) ⟨Qo _,rfl,by dsimp only;omega,by dsimp only;omega⟩ rfl (Ab (by repeat' constructor)) ?_
 rintro⟨i,li⟩ ⟨hi,hw,h5,h6⟩;dsimp only at hi hw h5 h6|-;by_cases h:i<ks.length
 .have dE:=Od h;by_cases h0:0<=li
  .have Lm:=UO (d:=d) (t:=ks[i]) (l:=li) (m:=m-1) (Nat.le_trans (FW (Ql h)) hdk) (tM _ (Ql h)) ⟨h5,h6⟩ (by omega) (by omega);have hle:=QC ks[i] li (m-1) h5;rw[A4]at Lm dE;focus
    refine Sq<|Es<|Ls 3 U<|Lq (kn U hlen) U<|Lv 2 U ?_;refine Bd U (fun h3=>?_) (fun h3=>?_);refine Lw U ?_;refine Cd U (fun h4=>?_) (fun h4=>?_);refine Sk<|Sq<|Sb<|Sr<|Ls 3 U<|Lq (kv U dE) U<|Lv 3 U<|Lq (X3.sub U ey U U (by omega)) U ?_;refine Lo (kc U (Lm)) U<|Lw U<|Sr<|qm U ?_;refine Lq (ka (b:=1) U (by omega)) U ?_;refine Lw U ?_;rotate_left;exact absurd h4 (by omega);exact absurd h3 (by omega)
   exact⟨(i+1,WU ks[i] li (m-1)),⟨h,by
    rw[hw,List.drop_eq_getElem_cons h,Yl,if_pos h0],hle.1,by dsimp only;omega⟩,by show ks.length-(i+1)<ks.length-i;omega,rfl,rfl,Ab (by repeat' constructor)⟩
  .focus
    refine Sq<|Es<|Ls 3 U<|Lq (kn U hlen) U<|Lv 2 U ?_;refine Bd U (fun h3=>?_) (fun h3=>?_);refine Lw U ?_;refine Cd U (fun h4=>?_) (fun h4=>?_);exact absurd h4 (by omega);refine Sx<|A0 U<|Ew U ?_;refine Se (Er U ?_);rotate_left;exact absurd h3 (by omega)
   show AV.int .i64 li= .int .i64 (WU (.mk o n ks) l m);rw[WU,if_neg (by omega),hw,IL h0]
 .focus
   refine Sq<|Es<|Ls 3 U<|Lq (kn U hlen) U<|Lv 2 U ?_;refine Bd U (fun h3=>?_) (fun h3=>?_);exact absurd h3 (by omega);refine Lw U<|Tf U<|Sx<|A0 U<|Ew U ?_;refine Se (Er U ?_);rotate_left
  show AV.int .i64 li= .int .i64 (WU (.mk o n ks) l m);rw[WU,if_neg (by omega),hw,List.drop_eq_nil_of_le (by omega)];rfl
theorem DH (t:Cp):Cr 40 (.O (Cm t))=true:=by
 rw[A4];cases t.g<;>rfl
theorem allKW (h:Wh Tryz.prog 10 [] (.bool true)):∀d,C6 Tryz.prog (KW d)
 |0=>yq h
 |d+1=>Aw Au (allKW h d) (fun p:WgT (d+1)=>yu d p.1.1 p.1.2.1 p.1.2.2 p.2.1 p.2.2.1 p.2.2.2.1 p.2.2.2.2.1 p.2.2.2.2.2) (fun p=>by
  show(Cr 40 (.O (Cm p.1.1))&&(true&&(true&&true)))=true;rw[DH];rfl) (fun _=>rfl)
end Go.Proofs.YtpihdbhocgcbpaaGreatDoor
open Go Am
namespace Go.Proofs.YtpihdbhocgcbpaaGreatDoor
def D_ (l:List Cw) (n:Int):Int:=(l.getD n.toNat ([],0)).2
def YY (cs fs:List Cw) (o n k:Int):Bool:=
 if o=1 then decide (k=0)&&X1 n 0 19
 else if o=2 then decide (k=0)&&X1 n (-1000000) 1000000
 else if o=3 then X1 n 0 ((cs.length:Int)-1)&&decide (k=D_ cs n)
 else if o=4 then X1 n 0 ((fs.length:Int)-1)&&decide (k=D_ fs n)
 else if o=5 then X1 n 0 ((fs.length:Int)-1)&&decide (k<D_ fs n)
 else if o=8 then decide (k=2)&&X1 n 0 19
 else if 6<=o/\o<=15 then decide (k=2)&&decide (n=0)
 else false
variable {ks:List Cp} {l:List Cw} {m:Nat}
theorem AN (o n:Int) (ks:List Cp):Cm (.mk o n ks)=[.int .i64 o,.int .i64 n,CI ks]:=A4 _
theorem HX (h:m<l.length):D_ l (m:Int)=l[m].2:=by
 unfold D_;rw[Int.toNat_natCast,List.getD_eq_getElem?_getD,Qi h];rfl
def Wn (cs fs:List Cw):AV:= .O [Cq Ok 2 cs,Cq Ok 2 fs]
abbrev WgA:= {p:Cp×Int×Int//WV p.1/\(-1<=p.2.1/\p.2.1<=1000)/\0<=p.2.2/\p.2.2<=1000}
noncomputable def KT1:=WA U_ 88 (fun p:WgA=>[.O (Cm p.1.1),.int .i64 p.1.2.1,.int .i64 p.1.2.2]) (fun p=> .int .i64 (WU p.1.1 p.1.2.1 p.1.2.2))
theorem Lm {t:Cp} {l m:Int} (hs:WV t) (hl: -1<=l/\l<=1000) (hm:0<=m/\m<=1000):KT1 88 [.O (Cm t),.int .i64 l,.int .i64 m]=some (.int .i64 (WU t l m)):=
 Ak (f:=88) (enc:=fun p:WgA=>[.O (Cm p.1.1),.int .i64 p.1.2.1,.int .i64 p.1.2.2]) (res:=fun p=> .int .i64 (WU p.1.1 p.1.2.1 p.1.2.2)) (by
  rintro⟨⟨a,b,c⟩,_⟩ ⟨⟨a',b',c'⟩,_⟩ h;simp only[List.cons.injEq,AV.int.injEq,AV.O.injEq,true_and,and_true]at h;obtain⟨h1,rfl,rfl⟩:=h;obtain rfl:=BJ _ _ h1;rfl) ⟨(t,l,m),hs,hl,hm⟩
theorem tall1 (h:Wh Tryz.prog 10 [] (.bool true)):C6 Tryz.prog KT1:=
 AG (yq h) fun p:WgA=>allKW h (Xg p.1.1) _ _ _ (UO (Qj _) p.2.1 p.2.2.1 p.2.2.2.1 p.2.2.2.2)
theorem node_to (cs fs:List Cw) (o n:Int) (ks:List Cp) (hc:cs.length<=4000) (hf:fs.length<=4000) (hk:ks.length<=4000):Co (EK KT1) 125 [Wn cs fs,.O (Cm (.mk o n ks))] S0 (.bool (YY cs fs o n (ks.length:Nat))):=by
 have hlen:=Ek (l:=ks);rw[AN];unfold Wn;refine As U ?_;by_cases e1:o=1
 .subst e1;focus
   refine Eh U<|Es<|Ls 2 U<|Lq (kn U hlen) U<|Lw U<|Sq<|Eh U<|Sb<|Ew U<|Tt U<|Es<|Lv 3 U ?_;refine Lb U (fun g1=>?_) (fun g1=>?_);have h1:=dT g1;refine Lh U g1 (kq U)<|Lg U g1 (kh U) ?_;refine Lg U g1 (kc U (D1))<|Lq (oT U g1 U) U<|Lw U ?_;refine Se (Er U ?_);refine Aa ?_;rotate_left;have h1:=dF g1;iterate 3 refine Lk U g1 ?_
   refine Lq (oF U g1 U) U<|Lw U ?_;refine Se (Er U ?_);refine Aa ?_;rotate_left
  .unfold YY;rw[g1];rfl
  .unfold YY;rw[g1];rfl
 by_cases e2:o=2
 .subst e2;focus
   refine Eh U<|Es<|Ls 2 U<|Lq (kn U hlen) U<|Lw U<|Sq<|Eh U<|Sb<|Ew U<|Tf U<|Ew U<|Tt U<|Es<|Lv 3 U ?_;refine Lb U (fun g1=>?_) (fun g1=>?_);have h1:=dT g1;refine Lh U g1 (kq U)<|Lg U g1 (kh U) ?_;refine Lg U g1 (kc U (D1))<|Lq (oT U g1 U) U<|Lw U ?_;refine Se (Er U ?_);refine Aa ?_;rotate_left;have h1:=dF g1;iterate 3 refine Lk U g1 ?_
   refine Lq (oF U g1 U) U<|Lw U ?_;refine Se (Er U ?_);refine Aa ?_;rotate_left
  .unfold YY;rw[g1];rfl
  .unfold YY;rw[g1];rfl
 by_cases e3:o=3
 .subst e3;cases Yi:X1 n 0 ((cs.length:Int)-1)with
  |false=>
   refine Eh U<|Es<|Ls 2 U<|Lq (kn U hlen) U<|Lw U<|Sq<|Eh U<|Sb<|Ew U<|Tf U<|Ew U<|Tf U<|Ew U<|Tt U<|Es<|Ls 5 U ?_;refine Lq (X3.sub U ey U U (by omega)) U ?_;refine Lo (kc U (D1)) U<|qm U ?_;iterate 9 refine Lk U Yi ?_
   refine Lq (oF U Yi U) U<|Lw U ?_;refine Se (Er U ?_);refine Aa ?_;unfold YY;rw[Yi];rfl
  |true=>
   have hb:0<=n/\n<=(cs.length:Int)-1:=by
    unfold X1 at Yi;rw[Qf]at Yi;exact⟨dT Yi.1,dT Yi.2⟩
   obtain⟨m,rfl⟩:∃m:Nat,n=(m:Int):=⟨n.natAbs,by omega⟩
   have hm:m<cs.length:=by omega
   have dE:=Af Av hm;have Xa:X1 (m:Int) 0 ((cs.length-1:Nat):Int)=true:=by rw[show((cs.length-1:Nat):Int)=(cs.length:Int)-1 by omega];exact Yi
   refine Eh U<|Es<|Ls 2 U<|Lq (kn U hlen) U<|Lw U<|Sq<|Eh U<|Sb<|Ew U<|Tf U<|Ew U<|Tf U<|Ew U<|Tt U<|Es<|Ls 5 U ?_;refine Lq (Bj (b:=1) U ey U U (by omega)) U ?_;refine Lo (kc U (D1)) U<|qm U ?_;iterate 2 refine Lh U Xa (kq U) ?_
   refine Lg U Xa (kh U)<|Lh U Xa (kq U)<|Lg U Xa (kh U)<|Lh U Xa (kv U dE) ?_;iterate 3 refine Lh U Xa (kq U) ?_
   refine Lq (oT U Xa U) U<|Lw U ?_;refine Se (Er U ?_);refine Aa ?_;unfold YY;rw[Yi,HX hm];rfl
 by_cases e4:o=4
 .subst e4;cases Yi:X1 n 0 ((fs.length:Int)-1)with
  |false=>
   refine Eh U<|Es<|Ls 2 U<|Lq (kn U hlen) U<|Lw U<|Sq<|Eh U<|Sb<|Ew U<|Tf U<|Ew U<|Tf U<|Ew U<|Tf U<|Ew U<|Tt U ?_;refine Es<|Ls 5 U<|Lq (X3.sub U ey U U (by omega)) U ?_;refine Lo (kc U (D1)) U<|qm U ?_;iterate 9 refine Lk U Yi ?_
   refine Lq (oF U Yi U) U<|Lw U ?_;refine Se (Er U ?_);refine Aa ?_;unfold YY;rw[Yi];rfl
  |true=>
   have hb:0<=n/\n<=(fs.length:Int)-1:=by
    unfold X1 at Yi;rw[Qf]at Yi;exact⟨dT Yi.1,dT Yi.2⟩
   obtain⟨m,rfl⟩:∃m:Nat,n=(m:Int):=⟨n.natAbs,by omega⟩
   have hm:m<fs.length:=by omega
   have dE:=Af Av hm;have Xa:X1 (m:Int) 0 ((fs.length-1:Nat):Int)=true:=by rw[show((fs.length-1:Nat):Int)=(fs.length:Int)-1 by omega];exact Yi
   refine Eh U<|Es<|Ls 2 U<|Lq (kn U hlen) U<|Lw U<|Sq<|Eh U<|Sb<|Ew U<|Tf U<|Ew U<|Tf U<|Ew U<|Tf U<|Ew U<|Tt U ?_;refine Es<|Ls 5 U<|Lq (Bj (b:=1) U ey U U (by omega)) U ?_;refine Lo (kc U (D1)) U<|qm U ?_;iterate 2 refine Lh U Xa (kq U) ?_
   refine Lg U Xa (kh U)<|Lh U Xa (kq U)<|Lg U Xa (kh U)<|Lh U Xa (kv U dE) ?_;iterate 3 refine Lh U Xa (kq U) ?_
   refine Lq (oT U Xa U) U<|Lw U ?_;refine Se (Er U ?_);refine Aa ?_;unfold YY;rw[Yi,HX hm];rfl
 by_cases e5:o=5
 .subst e5;cases Yi:X1 n 0 ((fs.length:Int)-1)with
  |false=>
   refine Eh U<|Es<|Ls 2 U<|Lq (kn U hlen) U<|Lw U<|Sq<|Eh U<|Sb<|Ew U<|Tf U<|Ew U<|Tf U<|Ew U<|Tf U<|Ew U<|Tf U ?_;refine Ew U<|Tt U<|Es<|Ls 5 U<|Lq (X3.sub U ey U U (by omega)) U ?_;refine Lo (kc U (D1)) U<|qm U ?_;iterate 9 refine Lk U Yi ?_
   refine Lq (oF U Yi U) U<|Lw U ?_;refine Se (Er U ?_);refine Aa ?_;unfold YY;rw[Yi];rfl
  |true=>
   have hb:0<=n/\n<=(fs.length:Int)-1:=by
    unfold X1 at Yi;rw[Qf]at Yi;exact⟨dT Yi.1,dT Yi.2⟩
   obtain⟨m,rfl⟩:∃m:Nat,n=(m:Int):=⟨n.natAbs,by omega⟩
   have hm:m<fs.length:=by omega
   have dE:=Af Av hm;have Xa:X1 (m:Int) 0 ((fs.length-1:Nat):Int)=true:=by rw[show((fs.length-1:Nat):Int)=(fs.length:Int)-1 by omega];exact Yi
   refine Eh U<|Es<|Ls 2 U<|Lq (kn U hlen) U<|Lw U<|Sq<|Eh U<|Sb<|Ew U<|Tf U<|Ew U<|Tf U<|Ew U<|Tf U<|Ew U<|Tf U ?_;refine Ew U<|Tt U<|Es<|Ls 5 U<|Lq (Bj (b:=1) U ey U U (by omega)) U ?_;refine Lo (kc U (D1)) U<|qm U ?_;iterate 2 refine Lh U Xa (kq U) ?_
   refine Lg U Xa (kh U)<|Lh U Xa (kq U)<|Lg U Xa (kh U)<|Lh U Xa (kv U dE) ?_;iterate 3 refine Lh U Xa (kq U) ?_
   refine Lq (oT U Xa U) U<|Lw U ?_;refine Se (Er U ?_);refine Aa ?_;unfold YY;rw[Yi,HX hm];rfl
 by_cases e8:o=8
 .subst e8;focus
   refine Eh U<|Es<|Ls 2 U<|Lq (kn U hlen) U<|Lw U<|Sq<|Eh U<|Sb<|Ew U<|Tf U<|Ew U<|Tf U<|Ew U<|Tf U<|Ew U<|Tf U ?_;refine Ew U<|Tf U<|Ew U<|Tt U<|Es<|Lv 3 U ?_;refine Lb U (fun g1=>?_) (fun g1=>?_);have h1:=dT g1;refine Lh U g1 (kq U)<|Lg U g1 (kh U) ?_;refine Lg U g1 (kc U (D1))<|Lq (oT U g1 U) U<|Lw U ?_;refine Se (Er U ?_);refine Aa ?_;rotate_left;have h1:=dF g1;iterate 3 refine Lk U g1 ?_
   refine Lq (oF U g1 U) U<|Lw U ?_;refine Se (Er U ?_);refine Aa ?_;rotate_left
  .unfold YY;rw[g1];rfl
  .unfold YY;rw[g1];rfl
 focus
  refine Eh U<|Es<|Ls 2 U<|Lq (kn U hlen) U<|Lw U<|Sq<|Eh U<|Sb<|Ew U ?_;refine Ec U (fun g1=>?_) (fun g1=>?_);have h1:=dT g1;exact absurd h1 (by omega);have h1:=dF g1;refine Ew U ?_;refine Ec U (fun g2=>?_) (fun g2=>?_);have h2:=dT g2;exact absurd h2 (by omega);have h2:=dF g2;refine Ew U ?_;refine Ec U (fun g3=>?_) (fun g3=>?_);have h3:=dT g3;exact absurd h3 (by omega);have h3:=dF g3;refine Ew U ?_;refine Ec U (fun g4=>?_) (fun g4=>?_);have h4:=dT g4;exact absurd h4 (by omega);have h4:=dF g4;refine Ew U ?_;refine Ec U (fun g5=>?_) (fun g5=>?_);have h5:=dT g5;exact absurd h5 (by omega);have h5:=dF g5;refine Ew U ?_;refine Ec U (fun g6=>?_) (fun g6=>?_);have h6:=dT g6;exact absurd h6 (by omega);have h6:=dF g6;refine Sq ?_;rotate_left
 refine DG (fun b:Bool=>([(98,.bool b),(5,.int .i64 (ks.length:Nat)),(3,.J 1 0)],Xc 2 0 [] [(1,some (.J [.int .i64 o,.int .i64 n,CI ks] 39 false)),(0,some (.J [Cq Ok 2 cs,Cq Ok 2 fs] 24 false))])) (fun b=>b=true↔6<=o/\o<=15) ?_ ?_
 .focus
   refine Ew U ?_;refine Ec U (fun g7=>?_) (fun g7=>?_);have h7:=dT g7;refine Sk ?_;rotate_left;have h7:=dF g7;refine Ew U ?_;refine Ec U (fun g8=>?_) (fun g8=>?_);have h8:=dT g8;refine Sk ?_;rotate_left;have h8:=dF g8;refine Ew U ?_;refine Ec U (fun g9=>?_) (fun g9=>?_);have h9:=dT g9;refine Sk ?_;rotate_left;have h9:=dF g9;refine Ew U ?_;refine Ec U (fun g10=>?_) (fun g10=>?_);have h10:=dT g10;refine Sk ?_;rotate_left;have h10:=dF g10;refine Ew U ?_;refine Ec U (fun g11=>?_) (fun g11=>?_);have h11:=dT g11;refine Sk ?_;rotate_left;have h11:=dF g11;refine Ew U ?_;refine Ec U (fun g12=>?_) (fun g12=>?_);have h12:=dT g12;refine Sk ?_;rotate_left;have h12:=dF g12;refine Ew U ?_;refine Ec U (fun g13=>?_) (fun g13=>?_);have h13:=dT g13;refine Sk ?_;rotate_left;have h13:=dF g13;refine Ew U ?_;refine Ec U (fun g14=>?_) (fun g14=>?_);have h14:=dT g14;refine Sk ?_;rotate_left;have h14:=dF g14
   refine Sr<|Lw U ?_;rotate_left
  .exact⟨rfl,decide (o=6),⟨fun h=>by have:=dT h;omega,fun _=>decide_eq_true h7⟩,rfl,Ab (by repeat' constructor)⟩
  .exact⟨rfl,decide (o=7),⟨fun h=>by have:=dT h;omega,fun _=>decide_eq_true h8⟩,rfl,Ab (by repeat' constructor)⟩
  .exact⟨rfl,decide (o=9),⟨fun h=>by have:=dT h;omega,fun _=>decide_eq_true h9⟩,rfl,Ab (by repeat' constructor)⟩
  .exact⟨rfl,decide (o=10),⟨fun h=>by have:=dT h;omega,fun _=>decide_eq_true h10⟩,rfl,Ab (by repeat' constructor)⟩
  .exact⟨rfl,decide (o=11),⟨fun h=>by have:=dT h;omega,fun _=>decide_eq_true h11⟩,rfl,Ab (by repeat' constructor)⟩
  .exact⟨rfl,decide (o=12),⟨fun h=>by have:=dT h;omega,fun _=>decide_eq_true h12⟩,rfl,Ab (by repeat' constructor)⟩
  .exact⟨rfl,decide (o=13),⟨fun h=>by have:=dT h;omega,fun _=>decide_eq_true h13⟩,rfl,Ab (by repeat' constructor)⟩
  .exact⟨rfl,decide (o=14),⟨fun h=>by have:=dT h;omega,fun _=>decide_eq_true h14⟩,rfl,Ab (by repeat' constructor)⟩
  .exact⟨rfl,decide (o=15),⟨fun h=>by have:=dT h;omega,fun h=>decide_eq_true (by omega)⟩,rfl,Ab (by repeat' constructor)⟩
 rintro b hb;dsimp only;have hN:YY cs fs o n (ks.length:Nat)=if 6<=o/\o<=15 then decide ((ks.length:Int)=2)&&decide (n=0)else false:=by
  unfold YY;rw[if_neg e1,if_neg e2,if_neg e3,if_neg e4,if_neg e5,if_neg e8]
 cases b with
 |true=>
  rw[hN,if_pos (hb.1 rfl)];focus
   refine Tt U<|Es<|Lv 3 U ?_;refine Lb U (fun g7=>?_) (fun g7=>?_);have h7:=dT g7;refine Lh U g7 (kq U)<|Lg U g7 (kh U)<|Lh U g7 (kq U)<|Lq (oT U g7 U) U<|Lw U ?_;refine Se (Er U ?_);refine Aa ?_;rotate_left;have h7:=dF g7;iterate 3 refine Lk U g7 ?_
   refine Lq (oF U g7 U) U<|Lw U ?_;refine Se (Er U ?_);refine Aa ?_;rotate_left
  .rw[g7];rfl
  .rw[g7];rfl
 |false=>
  rw[hN,if_neg fun h=>by cases hb.2 h];refine Tf U<|Sk<|Ew U ?_;refine Se (Er U ?_);exact Aa U
abbrev kJ:= {p:(List Cw×List Cw)×(Int×Int×List Cp)//p.1.1.length<=4000/\p.1.2.length<=4000/\p.2.2.2.length<=4000}
noncomputable def KT2:=WA KT1 125 (fun p:kJ=>[Wn p.1.1.1 p.1.1.2,.O (Cm (.mk p.1.2.1 p.1.2.2.1 p.1.2.2.2))]) (fun p=> .bool (YY p.1.1.1 p.1.1.2 p.1.2.1 p.1.2.2.1 (p.1.2.2.2.length:Nat)))
theorem GD {a b c d:List Cw} (h:Wn a b=Wn c d):a=c/\b=d:=by
 have h:=AV.O.inj h;simp only[List.cons.injEq,and_true]at h;exact⟨AT Dc Av h.1,AT Dc Av h.2⟩
theorem PJ {cs fs:List Cw} {o n:Int} (hc:cs.length<=4000) (hf:fs.length<=4000) (hk:ks.length<=4000):KT2 125 [Wn cs fs,.O (Cm (.mk o n ks))]=some (.bool (YY cs fs o n (ks.length:Nat))):=
 Ak (f:=125) (enc:=fun p:kJ=>[Wn p.1.1.1 p.1.1.2,.O (Cm (.mk p.1.2.1 p.1.2.2.1 p.1.2.2.2))]) (res:=fun p=> .bool (YY p.1.1.1 p.1.1.2 p.1.2.1 p.1.2.2.1 (p.1.2.2.2.length:Nat))) (by
  rintro⟨⟨⟨a,b⟩,⟨c,d,e⟩⟩,_⟩ ⟨⟨⟨a',b'⟩,⟨c',d',e'⟩⟩,_⟩ h;simp only[List.cons.injEq,and_true]at h;obtain⟨rfl,rfl⟩:=GD h.1;have:=BJ _ _ (AV.O.inj h.2);cases this;rfl) ⟨((cs,fs),(o,n,ks)),hc,hf,hk⟩
theorem tall2 (h:Wh Tryz.prog 10 [] (.bool true)):C6 Tryz.prog KT2:=
 Aw Au (tall1 h) (fun p:kJ=>node_to p.1.1.1 p.1.1.2 p.1.2.1 p.1.2.2.1 p.1.2.2.2 p.2.1 p.2.2.1 p.2.2.2) (fun p=>by
  show(Cr 40 (Wn _ _)&&(Cr 40 (.O (Cm _))&&true))=true;rw[DH];rfl) (fun _=>rfl)
end Go.Proofs.YtpihdbhocgcbpaaGreatDoor
open Go Am
namespace Go.Proofs.YtpihdbhocgcbpaaGreatDoor
mutual
def ZF (cs fs:List Cw):Cp->Bool
 | .mk o n ks=>YY cs fs o n (ks.length:Nat)&&ee cs fs ks
def ee (cs fs:List Cw):List Cp->Bool
 | []=>true
 |t::ts=>ZF cs fs t&&ee cs fs ts
end
variable {t:Cp} {cs fs:List Cw} {d:Nat}
theorem OB {cs fs:List Cw}:∀ {ts:List Cp},ee cs fs ts=true->∀t∈ts,ZF cs fs t=true
 |u::ts,h,t,ht=>by
  rw[ee,Qf]at h;rcases Qk.1 ht with rfl|ht
  .exact h.1
  .exact OB h.2 t ht
theorem OA {cs fs:List Cw}:∀ {ts:List Cp},(∀t∈ts,ZF cs fs t=true)->ee cs fs ts=true
 | [],_=>rfl
 |u::ts,h=>by
  rw[ee,h u (Qh ..),OA fun t ht=>h t (Qg _ ht)];rfl
abbrev AlT (d:Nat):= {p:(List Cw×List Cw)×Cp//p.1.1.length<=4000/\p.1.2.length<=4000/\Xg p.2<=d/\WV p.2}
noncomputable def KN:Nat->FuncId->List AV->Option AV
 |0=>KT2
 |d+1=>WA (KN d) 89 (fun p:AlT (d+1)=>[Wn p.1.1.1 p.1.1.2,.O (Cm p.1.2)]) (fun p=> .bool (ZF p.1.1.1 p.1.1.2 p.1.2))
theorem VV:∀(d:Nat) (a:List AV),KN d 125 a=KT2 125 a
 |0,_=>rfl
 |d+1,a=>VV d a
theorem UQ (hc:cs.length<=4000) (hf:fs.length<=4000) (h:Xg t<=d) (hs:WV t):KN d 89 [Wn cs fs,.O (Cm t)]=some (.bool (ZF cs fs t)):=by
 cases d with
 |zero=>rw[EX]at h;omega
 |succ d=>
  exact Ak (f:=89) (enc:=fun p:AlT (d+1)=>[Wn p.1.1.1 p.1.1.2,.O (Cm p.1.2)]) (res:=fun p=> .bool (ZF p.1.1.1 p.1.1.2 p.1.2)) (by
   rintro⟨⟨⟨a,b⟩,c⟩,_⟩ ⟨⟨⟨a',b'⟩,c'⟩,_⟩ h;simp only[List.cons.injEq,and_true]at h;obtain⟨rfl,rfl⟩:=GD h.1;obtain rfl:=BJ _ _ (AV.O.inj h.2);rfl) ⟨((cs,fs),t),hc,hf,h,hs⟩
theorem yv (d:Nat) (cs fs:List Cw) (t:Cp) (hc:cs.length<=4000) (hf:fs.length<=4000) (h:Xg t<=d+1) (hs:WV t):Co (EK (KN d)) 89 [Wn cs fs,.O (Cm t)] S0 (.bool (ZF cs fs t)):=by
 have hx:KN d 89 [Wn cs fs,.O (Cm t)]=none\/KN d 89 [Wn cs fs,.O (Cm t)]=some (.bool (ZF cs fs t)):=by
  cases d with
  |zero=>exact .inl rfl
  |succ d=>
   by_cases hd:Xg t<=d+1
   .exact .inr (UQ hc hf hd hs)
   .refine .inl (Hw fun p e=>hd ?_);obtain⟨⟨⟨a,b⟩,c⟩,hp⟩:=p;simp only[List.cons.injEq,and_true]at e;obtain rfl:=BJ _ _ (AV.O.inj e.2);exact hp.2.2.1
 rcases hx with hx|hx;rotate_left
 .exact Co.XF hx
 obtain⟨o,n,ks⟩:=t;cases hs with
 |mk hk tM=>
 have Zw:KN d 125 [Wn cs fs,.O (Cm (.mk o n ks))]=some (.bool (YY cs fs o n (ks.length:Nat))):=(VV d _).trans (PJ hc hf hk);rw[AN]at hx Zw|-;unfold Wn at hx Zw|-;have PJ:=Zw;refine Dz (fn:=Tryz.f89) U hx (by kernel_rfl) U U U U ?_;have hlen:=Ek (l:=ks);have hdk:X9 ks<=d:=by have:X9 ks+1<=d+1:=h;omega
 focus
  refine Eh U<|Sq<|Es<|Ls 2 U ?_;refine Lo (kc U (PJ)) U<|Lw U ?_;refine Cn U (fun h1=>?_) (fun h1=>?_);refine Ew U ?_;refine Se (Er U ?_);refine Aa ?_;rotate_left;refine Sk<|Sq<|Ew U<|Sb ?_;rotate_left
 .rw[ZF,h1];rfl
 refine Ai (fun i:Nat=>([(5,.int .i64 (i:Nat)),(3,.J 1 0),(2,.J 0 0)],Xc 2 0 [] [(1,some (.J [.int .i64 o,.int .i64 n,CI ks] 39 false)),(0,some (.J [Cq Ok 2 cs,Cq Ok 2 fs] 24 false))])) (fun i=>ks.length-i)
  (fun i=>i<=ks.length/\∀j (hj:j<ks.length),j<i->ZF cs fs ks[j]=true) 0 ⟨Qo _,fun j _ h=>absurd h (Nat.not_lt_zero _)⟩ rfl (Ab (by repeat' constructor)) ?_
 rintro i ⟨hi,ha⟩;dsimp only at hi ha|-;by_cases h:i<ks.length
 .have dE:=Od h;have JC:=UQ (d:=d) (t:=ks[i]) hc hf (Nat.le_trans (FW (Ql h)) hdk) (tM _ (Ql h));rw[A4]at JC dE;unfold Wn at JC;focus
   refine Sq<|Es<|Ls 3 U<|Lq (kn U hlen) U<|Lw U ?_;refine Cd U (fun h2=>?_) (fun h2=>?_);refine Sk<|Sq<|Sb<|Ad (by kernel_rfl)<|Qz U ag_24 sz_24 U U (Qc U) (by kernel_rfl) (.inl U) U U<|Nv 1 U<|Aj U I0 Gg U U U (by kernel_rfl) (.inl U) U U<|Nv 1 U<|Nq (kv U dE) U<|Nv 1 U ?_;refine Na (kC U (JC)) (.inl U) U<|Nw U ?_;refine Cn U (fun h3=>?_) (fun h3=>?_);refine Ew U ?_;refine Se (Er U ?_);refine Aa ?_;rotate_left;refine Sk<|Sr<|qm U ?_;refine Lq (ka (b:=1) U (by omega)) U ?_;refine Lw U ?_;rotate_left;exact absurd h2 (by omega)
  .rw[ZF,h1];cases hA:ee cs fs ks with
   |false=>rfl
   |true=>
    rw[OB hA _ (Ql h)]at h3;cases h3
  .exact⟨i+1,⟨h,fun j hj C5=>by
    rcases Nat.lt_or_ge j i with h4|h4
    .exact ha j hj h4
    .obtain rfl:j=i:=by omega
     exact h3⟩,by show ks.length-(i+1)<ks.length-i;omega,U,U,Ab (by repeat' constructor)⟩
 .focus
   refine Sq<|Es<|Ls 3 U<|Lq (kn U hlen) U<|Lw U ?_;refine Cd U (fun h2=>?_) (fun h2=>?_);exact absurd h2 (by omega);refine Sx<|A0 U<|Ew U ?_;refine Se (Er U ?_);refine Aa ?_;rotate_left
  rw[ZF,h1,OA fun t ht=>by
   obtain⟨j,hj,rfl⟩:=List.mem_iff_getElem.1 ht;exact ha j hj (by omega)];rfl
theorem allKN (h:Wh Tryz.prog 10 [] (.bool true)):∀d,C6 Tryz.prog (KN d)
 |0=>tall2 h
 |d+1=>Aw Au (allKN h d) (fun p:AlT (d+1)=>yv d p.1.1.1 p.1.1.2 p.1.2 p.2.1 p.2.2.1 p.2.2.2.1 p.2.2.2.2) (fun p=>by
  show(Cr 40 (Wn _ _)&&(Cr 40 (.O (Cm _))&&true))=true;rw[DH];rfl) (fun _=>rfl)
abbrev zN:= {p:(List Cw×List Cw)×Cp//p.1.1.length<=4000/\p.1.2.length<=4000/\WV p.2}
noncomputable def KT3:=WA KT2 89 (fun p:zN=>[Wn p.1.1.1 p.1.1.2,.O (Cm p.1.2)]) (fun p=> .bool (ZF p.1.1.1 p.1.1.2 p.1.2))
theorem GE {a b c d:List Cw} {u:Cp} (h: [Wn a b,.O (Cm t)]=[Wn c d,.O (Cm u)]):a=c/\b=d/\t=u:=by
 simp only[List.cons.injEq,and_true]at h;obtain⟨rfl,rfl⟩:=GD h.1;exact⟨U,U,BJ _ _ (AV.O.inj h.2)⟩
theorem JC (hc:cs.length<=4000) (hf:fs.length<=4000) (hs:WV t):KT3 89 [Wn cs fs,.O (Cm t)]=some (.bool (ZF cs fs t)):=
 Ak (f:=89) (enc:=fun p:zN=>[Wn p.1.1.1 p.1.1.2,.O (Cm p.1.2)]) (res:=fun p=> .bool (ZF p.1.1.1 p.1.1.2 p.1.2)) (by
  rintro⟨⟨⟨a,b⟩,c⟩,_⟩ ⟨⟨⟨a',b'⟩,c'⟩,_⟩ h;obtain⟨rfl,rfl,rfl⟩:=GE h;rfl) ⟨((cs,fs),t),hc,hf,hs⟩
def Xt (cs fs:List Cw) (t:Cp):Bool:=decide (0<=WU t 40 12)&&ZF cs fs t
theorem term_to (cs fs:List Cw) (t:Cp) (hc:cs.length<=4000) (hf:fs.length<=4000) (hs:WV t):Co (EK KT3) 47 [Wn cs fs,.O (Cm t)] S0 (.bool (Xt cs fs t)):=by
 have JC:=JC hc hf hs;have Lm:=Lm hs (l:=40) (m:=12) (by decide) (by decide);rw[A4]at*;unfold Wn at*;refine As U ?_;focus
  refine Eh U<|Es<|Ls 1 U ?_;refine Lo (kc U (Lm)) U<|Lv 2 U ?_;refine Bb U (fun g1=>?_) (fun g1=>?_);have h1:=dT g1;refine Ls 2 U ?_;refine Lg U U (A7 U U (by kernel_rfl) U (Co.XF (JC)))<|Lw U ?_;refine A9 (Er U ?_);refine Aa ?_;rotate_left;have h1:=dF g1;refine Lw U ?_;refine A9 (Er U ?_);refine Aa ?_;rotate_left
 .unfold Xt;rw[g1];rfl
 .unfold Xt;rw[g1];rfl
noncomputable def KT4:=WA KT3 47 (fun p:zN=>[Wn p.1.1.1 p.1.1.2,.O (Cm p.1.2)]) (fun p=> .bool (Xt p.1.1.1 p.1.1.2 p.1.2))
theorem Gk (hc:cs.length<=4000) (hf:fs.length<=4000) (hs:WV t):KT4 47 [Wn cs fs,.O (Cm t)]=some (.bool (Xt cs fs t)):=
 Ak (f:=47) (enc:=fun p:zN=>[Wn p.1.1.1 p.1.1.2,.O (Cm p.1.2)]) (res:=fun p=> .bool (Xt p.1.1.1 p.1.1.2 p.1.2)) (by
  rintro⟨⟨⟨a,b⟩,c⟩,_⟩ ⟨⟨⟨a',b'⟩,c'⟩,_⟩ h;obtain⟨rfl,rfl,rfl⟩:=GE h;rfl) ⟨((cs,fs),t),hc,hf,hs⟩
theorem Nl (p:zN):([Wn p.1.1.1 p.1.1.2,.O (Cm p.1.2)]:List AV).all (Cr 40)=true:=by
 show(Cr 40 (Wn _ _)&&(Cr 40 (.O (Cm _))&&true))=true;rw[DH];rfl
theorem tall4 (h:Wh Tryz.prog 10 [] (.bool true)):C6 Tryz.prog KT4:=by
 have a3:C6 Tryz.prog KT3:=AG (tall2 h) fun p:zN=>allKN h (Xg p.1.2) _ _ _ (UQ p.2.1 p.2.2.1 (Qj _) p.2.2.2);exact Aw Au a3 (fun p:zN=>term_to p.1.1.1 p.1.1.2 p.1.2 p.2.1 p.2.2.1 p.2.2.2) Nl (fun _=>rfl)
end Go.Proofs.YtpihdbhocgcbpaaGreatDoor
open Go Am
namespace Go.Proofs.YtpihdbhocgcbpaaGreatDoor
abbrev SmT (d:Nat):= {t:Cp//Xg t<=d/\WV t}
noncomputable def KS:Nat->FuncId->List AV->Option AV
 |0=>KT4
 |d+1=>WA (KS d) 33 (fun p:SmT (d+1)=>[.O (Cm p.1),.O (Cm p.1)]) (fun _=> .bool true)
variable {t:Cp} {d:Nat}
theorem UP (h:Xg t<=d) (hs:WV t):KS d 33 [.O (Cm t),.O (Cm t)]=some (.bool true):=by
 cases d with
 |zero=>rw[EX]at h;omega
 |succ d=>exact Ak (enc:=fun p:SmT (d+1)=>[.O (Cm p.1),.O (Cm p.1)]) (fun _ _ _=>rfl) ⟨t,h,hs⟩
theorem yw (d:Nat) (t:Cp) (h:Xg t<=d+1) (hs:WV t):Co (EK (KS d)) 33 [.O (Cm t),.O (Cm t)] S0 (.bool true):=by
 have hx:KS d 33 [.O (Cm t),.O (Cm t)]=none\/KS d 33 [.O (Cm t),.O (Cm t)]=some (.bool true):=by
  cases d with
  |zero=>exact .inl rfl
  |succ d=>
   by_cases hd:Xg t<=d+1
   .exact .inr (UP hd hs)
   .refine .inl (Hw fun p e=>hd ?_);obtain⟨c,hp⟩:=p;simp only[List.cons.injEq,and_true]at e;obtain rfl:=BJ _ _ (AV.O.inj e.1);exact hp.1
 rcases hx with hx|hx;rotate_left
 .exact Co.XF hx
 obtain⟨o,n,ks⟩:=t;cases hs with
 |mk hk tM=>
 rw[AN]at hx|-;refine Dz (fn:=Tryz.f33) U hx (by kernel_rfl) U U U U ?_;have hlen:=Ek (l:=ks);have hdk:X9 ks<=d:=by have:X9 ks+1<=d+1:=h;omega
 focus
  refine Eh U<|Sq<|Es<|Ls 6 U ?_;refine Be U (fun h1=>?_) (fun h1=>?_);exact absurd h1 (by omega);refine Ls 7 U ?_;refine Be U (fun h2=>?_) (fun h2=>?_);exact absurd h2 (by omega);refine Ls 2 U<|Lh U U (kn U hlen)<|Ls 2 U<|Lh U U (kn U hlen)<|Lw U ?_;refine Ce U (fun h3=>?_) (fun h3=>?_);exact absurd h3 (by omega);refine Sk<|Sq<|Ew U<|Sb ?_;rotate_left
 refine Ai (fun i:Nat=>([(5,.int .i64 (i:Nat)),(3,.J 1 0),(2,.J 0 0)],Xc 2 0 [] [(1,some (.J [.int .i64 o,.int .i64 n,CI ks] 39 false)),(0,some (.J [.int .i64 o,.int .i64 n,CI ks] 39 false))])) (fun i=>ks.length-i)
  (fun i=>i<=ks.length) 0 (Qo _) rfl (Ab (by repeat' constructor)) ?_
 rintro i hi;dsimp only at hi|-;by_cases h:i<ks.length
 .have dE:=Od h;have F1:=UP (d:=d) (t:=ks[i]) (Nat.le_trans (FW (Ql h)) hdk) (tM _ (Ql h));rw[A4]at F1 dE;focus
   refine Sq<|Es<|Ls 3 U<|Lq (kn U hlen) U<|Lw U ?_;refine Cd U (fun h4=>?_) (fun h4=>?_);refine Sk<|Sq<|Sb<|Ad (by kernel_rfl)<|Nv 1 U<|Aj U I0 Gg U U U (by kernel_rfl) (.inl U) U U<|Nv 1 U<|Nq (kv U dE) U<|Nv 2 U<|Aj U I0 Gg U U U (by kernel_rfl) (.inl U) U U<|Nv 1 U<|Nq (kv U dE) U<|Nv 1 U ?_;refine Na (kC U (F1)) (.inl U) U<|Nw U<|Tf U<|Sk<|Sr<|qm U ?_;refine Lq (ka (b:=1) U (by omega)) U ?_;refine Lw U ?_;rotate_left;exact absurd h4 (by omega)
  exact⟨i+1,h,by show ks.length-(i+1)<ks.length-i;omega,U,U,Ab (by repeat' constructor)⟩
 .focus
   refine Sq<|Es<|Ls 3 U<|Lq (kn U hlen) U<|Lw U ?_;refine Cd U (fun h4=>?_) (fun h4=>?_);exact absurd h4 (by omega);refine Sx<|A0 U<|Ew U ?_;refine Se (Er U ?_);exact Aa U
theorem allKS (h:Wh Tryz.prog 10 [] (.bool true)):∀d,C6 Tryz.prog (KS d)
 |0=>tall4 h
 |d+1=>Aw Au (allKS h d) (fun p:SmT (d+1)=>yw d p.1 p.2.1 p.2.2) (fun p=>by
  show(Cr 40 (.O (Cm _))&&(Cr 40 (.O (Cm _))&&true))=true;rw[DH];rfl) (fun _=>rfl)
abbrev SlT:= {t:Cp//WV t}
noncomputable def KT5:=WA KT4 33 (fun p:SlT=>[.O (Cm p.1),.O (Cm p.1)]) (fun _=> .bool true)
theorem F1 (hs:WV t):KT5 33 [.O (Cm t),.O (Cm t)]=some (.bool true):=
 Ak (enc:=fun p:SlT=>[.O (Cm p.1),.O (Cm p.1)]) (fun _ _ _=>rfl) ⟨t,hs⟩
structure eB where
 d:Int
 c:List Cp
 a:Cp
 b:Int
def W3 (r:eB):List AV:=[.int .i64 r.d,CI r.c,.int .i64 r.a.op,.int .i64 r.a.n,CI r.a.g,.int .i64 r.b]
structure rk (r:eB):Prop where
 len:r.c.length<=4000
 ZS:∀t∈r.c,WV t
 rhs:WV r.a
theorem rule_to (r:eB) (hr:rk r):Co (EK KT5) 18 [.O (W3 r),.O (W3 r)] S0 (.bool true):=by
 obtain⟨f,ps,rh,v⟩:=r;obtain⟨hl,hp,hh⟩:=hr;dsimp only at hl hp hh;have mR:=F1 hh;refine As U ?_;have hlen:=Ek (l:=ps);focus
  refine Eh U<|Sq<|Es<|Ls 6 U ?_;refine Be U (fun h1=>?_) (fun h1=>?_);exact absurd h1 (by omega);refine Ls 7 U ?_;refine Be U (fun h2=>?_) (fun h2=>?_);exact absurd h2 (by omega);refine Ls 2 U<|Lh U U (kn U hlen)<|Ls 2 U<|Lh U U (kn U hlen)<|Lw U ?_;refine Ce U (fun h3=>?_) (fun h3=>?_);exact absurd h3 (by omega);refine Sk<|Sq<|Ew U<|Sb ?_;rotate_left
 refine Ai (fun i:Nat=>([(5,.int .i64 (i:Nat)),(3,.J 1 0),(2,.J 0 0)],Xc 2 0 [] [(1,some (.J (W3 ⟨f,ps,rh,v⟩) 41 false)),(0,some (.J (W3 ⟨f,ps,rh,v⟩) 41 false))])) (fun i=>ps.length-i)
  (fun i=>i<=ps.length) 0 (Qo _) rfl (Ab (by repeat' constructor)) ?_
 rintro i hi;dsimp only at hi|-;by_cases h:i<ps.length
 .have dE:=Od h;have F1:=F1 (hp _ (Ql h));rw[A4]at F1 dE;focus
   refine Sq<|Es<|Ls 3 U<|Lq (kn U hlen) U<|Lw U ?_;refine Cd U (fun h4=>?_) (fun h4=>?_);refine Sk<|Sq<|Sb<|Ad (by kernel_rfl)<|Nv 1 U<|Aj U I0 Gg U U U (by kernel_rfl) (.inl U) U U<|Nv 1 U<|Nq (kv U dE) U<|Nv 2 U<|Aj U I0 Gg U U U (by kernel_rfl) (.inl U) U U<|Nv 1 U<|Nq (kv U dE) U<|Nv 1 U ?_;refine Na (kC U (F1)) (.inl U) U<|Nw U<|Tf U<|Sk<|Sr<|qm U ?_;refine Lq (ka (b:=1) U (by omega)) U ?_;refine Lw U ?_;rotate_left;exact absurd h4 (by omega)
  exact⟨i+1,h,by show ps.length-(i+1)<ps.length-i;omega,U,U,Ab (by repeat' constructor)⟩
 .have F1:=mR;rw[A4]at F1;focus
   refine Sq<|Es<|Ls 3 U<|Lq (kn U hlen) U<|Lw U ?_;refine Cd U (fun h4=>?_) (fun h4=>?_);exact absurd h4 (by omega);refine Sx<|A0 U<|Es<|Ls 4 U ?_;refine Lo (kc U (F1)) U<|Lw U ?_;refine Se (Er U ?_);exact Aa U
abbrev SrT:= {r:eB//rk r}
noncomputable def KT6:=WA KT5 18 (fun p:SrT=>[.O (W3 p.1),.O (W3 p.1)]) (fun _=> .bool true)
theorem Rk {r:eB} (hs:rk r):KT6 18 [.O (W3 r),.O (W3 r)]=some (.bool true):=
 Ak (enc:=fun p:SrT=>[.O (W3 p.1),.O (W3 p.1)]) (fun _ _ _=>rfl) ⟨r,hs⟩
theorem tall6 (h:Wh Tryz.prog 10 [] (.bool true)):C6 Tryz.prog KT6:=by
 have a5:C6 Tryz.prog KT5:=AG (tall4 h) fun p:SlT=>allKS h (Xg p.1) _ _ _ (UP (Qj _) p.2);exact Aw Au a5 (fun p:SrT=>rule_to p.1 p.2) (fun p=>by
  have h1:∀l,Cr 39 (CI l)=true:=fun l=>by cases l<;>rfl
  show(((W3 p.1).all (Cr 39))&&(((W3 p.1).all (Cr 39))&&true))=true;have:(W3 p.1).all (Cr 39)=true:=by
   show(true&&(Cr 39 (CI _)&&(true&&(true&&(Cr 39 (CI _)&&(true&&true))))))=true;rw[h1,h1];rfl
  rw[this];rfl) (fun _=>rfl)
end Go.Proofs.YtpihdbhocgcbpaaGreatDoor
open Go Am
namespace Go.Proofs.YtpihdbhocgcbpaaGreatDoor
def ku (n k:Int):Bool:=decide (n=0)&&decide (k=2)
def rm (n k:Int):Bool:=X1 n 0 19&&decide (k=0)
def rn (n k:Int):Bool:=X1 n (-1000000) 1000000&&decide (k=0)
def rp (n k:Int):Bool:=X1 n 0 19&&decide (k=2)
def gj (l:List Cw) (n k:Int):Bool:=X1 n 0 ((l.length:Int)-1)&&decide (k=D_ l n)
def ky (l:List Cw) (n k:Int):Bool:=X1 n 0 ((l.length:Int)-1)&&decide (k<D_ l n)
variable {n o:Int} {ks:List Cp} {cs fs:List Cw}
theorem Pc (cs fs:List Cw) (o n:Int) (ks:List Cp):Co (EK KT6) 284 [Wn cs fs,.O (Cm (.mk o n ks))] S0 (.bool (rm n (ks.length:Nat))):=by
 have hlen:=Ek (l:=ks);rw[AN];unfold Wn;refine As U ?_;focus
  refine Eh U<|Es<|Ls 2 U ?_;refine Lo (kc U (E7)) U<|qm U ?_;refine Bb U (fun g1=>?_) (fun g1=>?_);refine Ls 2 U<|Lh U U (kn U hlen)<|Lw U ?_;refine Se (Er U ?_);refine Aa ?_;rotate_left;refine Lw U ?_;refine Se (Er U ?_);refine Aa ?_;rotate_left
 .unfold rm;rw[g1];rfl
 .unfold rm;rw[g1];rfl
noncomputable def KC1:=WA KT6 284 (fun p:kJ=>[Wn p.1.1.1 p.1.1.2,.O (Cm (.mk p.1.2.1 p.1.2.2.1 p.1.2.2.2))]) (fun p=> .bool (rm p.1.2.2.1 (p.1.2.2.2.length:Nat)))
theorem PI (hc:cs.length<=4000) (hf:fs.length<=4000) (hk:ks.length<=4000):KC1 284 [Wn cs fs,.O (Cm (.mk o n ks))]=some (.bool (rm n (ks.length:Nat))):=
 Ak (f:=284) (enc:=fun p:kJ=>[Wn p.1.1.1 p.1.1.2,.O (Cm (.mk p.1.2.1 p.1.2.2.1 p.1.2.2.2))]) (res:=fun p=> .bool (rm p.1.2.2.1 (p.1.2.2.2.length:Nat))) (by
  rintro⟨⟨⟨a,b⟩,⟨c,d,e⟩⟩,_⟩ ⟨⟨⟨a',b'⟩,⟨c',d',e'⟩⟩,_⟩ h;obtain⟨rfl,rfl,h⟩:=GE h;cases h;rfl) ⟨((cs,fs),(o,n,ks)),hc,hf,hk⟩
theorem SF (cs fs:List Cw) (o n:Int) (ks:List Cp):Co (EK KC1) 285 [Wn cs fs,.O (Cm (.mk o n ks))] S0 (.bool (rn n (ks.length:Nat))):=by
 have hlen:=Ek (l:=ks);rw[AN];unfold Wn;refine As U ?_;focus
  refine Eh U<|Es<|Ls 2 U ?_;refine Lo (kc U (E7)) U<|qm U ?_;refine Bb U (fun g1=>?_) (fun g1=>?_);refine Ls 2 U<|Lh U U (kn U hlen)<|Lw U ?_;refine Se (Er U ?_);refine Aa ?_;rotate_left;refine Lw U ?_;refine Se (Er U ?_);refine Aa ?_;rotate_left
 .unfold rn;rw[g1];rfl
 .unfold rn;rw[g1];rfl
noncomputable def KC2:=WA KC1 285 (fun p:kJ=>[Wn p.1.1.1 p.1.1.2,.O (Cm (.mk p.1.2.1 p.1.2.2.1 p.1.2.2.2))]) (fun p=> .bool (rn p.1.2.2.1 (p.1.2.2.2.length:Nat)))
theorem PH (hc:cs.length<=4000) (hf:fs.length<=4000) (hk:ks.length<=4000):KC2 285 [Wn cs fs,.O (Cm (.mk o n ks))]=some (.bool (rn n (ks.length:Nat))):=
 Ak (f:=285) (enc:=fun p:kJ=>[Wn p.1.1.1 p.1.1.2,.O (Cm (.mk p.1.2.1 p.1.2.2.1 p.1.2.2.2))]) (res:=fun p=> .bool (rn p.1.2.2.1 (p.1.2.2.2.length:Nat))) (by
  rintro⟨⟨⟨a,b⟩,⟨c,d,e⟩⟩,_⟩ ⟨⟨⟨a',b'⟩,⟨c',d',e'⟩⟩,_⟩ h;obtain⟨rfl,rfl,h⟩:=GE h;cases h;rfl) ⟨((cs,fs),(o,n,ks)),hc,hf,hk⟩
theorem let_to (cs fs:List Cw) (o n:Int) (ks:List Cp):Co (EK KC2) 289 [Wn cs fs,.O (Cm (.mk o n ks))] S0 (.bool (rp n (ks.length:Nat))):=by
 have hlen:=Ek (l:=ks);rw[AN];unfold Wn;refine As U ?_;focus
  refine Eh U<|Es<|Ls 2 U ?_;refine Lo (kc U (E7)) U<|qm U ?_;refine Bb U (fun g1=>?_) (fun g1=>?_);refine Ls 2 U<|Lh U U (kn U hlen)<|Lw U ?_;refine Se (Er U ?_);refine Aa ?_;rotate_left;refine Lw U ?_;refine Se (Er U ?_);refine Aa ?_;rotate_left
 .unfold rp;rw[g1];rfl
 .unfold rp;rw[g1];rfl
noncomputable def KC3:=WA KC2 289 (fun p:kJ=>[Wn p.1.1.1 p.1.1.2,.O (Cm (.mk p.1.2.1 p.1.2.2.1 p.1.2.2.2))]) (fun p=> .bool (rp p.1.2.2.1 (p.1.2.2.2.length:Nat)))
theorem PD (hc:cs.length<=4000) (hf:fs.length<=4000) (hk:ks.length<=4000):KC3 289 [Wn cs fs,.O (Cm (.mk o n ks))]=some (.bool (rp n (ks.length:Nat))):=
 Ak (f:=289) (enc:=fun p:kJ=>[Wn p.1.1.1 p.1.1.2,.O (Cm (.mk p.1.2.1 p.1.2.2.1 p.1.2.2.2))]) (res:=fun p=> .bool (rp p.1.2.2.1 (p.1.2.2.2.length:Nat))) (by
  rintro⟨⟨⟨a,b⟩,⟨c,d,e⟩⟩,_⟩ ⟨⟨⟨a',b'⟩,⟨c',d',e'⟩⟩,_⟩ h;obtain⟨rfl,rfl,h⟩:=GE h;cases h;rfl) ⟨((cs,fs),(o,n,ks)),hc,hf,hk⟩
theorem pair_to (cs fs:List Cw) (o n:Int) (ks:List Cp):Co (EK KC3) 290 [Wn cs fs,.O (Cm (.mk o n ks))] S0 (.bool (ku n (ks.length:Nat))):=by
 have hlen:=Ek (l:=ks);rw[AN];unfold Wn;refine As U ?_;focus
  refine Eh U<|Es<|Ls 4 U ?_;refine Bb U (fun g1=>?_) (fun g1=>?_);have h1:=dT g1;refine Ls 2 U<|Lh U U (MU U U U U nr U hlen)<|Lw U ?_;refine A9 (Er U ?_);refine Aa ?_;rotate_left;have h1:=dF g1;refine Lw U ?_;refine A9 (Er U ?_);refine Aa ?_;rotate_left
 .unfold ku;rw[g1];rfl
 .unfold ku;rw[g1];rfl
noncomputable def KC4:=WA KC3 290 (fun p:kJ=>[Wn p.1.1.1 p.1.1.2,.O (Cm (.mk p.1.2.1 p.1.2.2.1 p.1.2.2.2))]) (fun p=> .bool (ku p.1.2.2.1 (p.1.2.2.2.length:Nat)))
theorem Bw (hc:cs.length<=4000) (hf:fs.length<=4000) (hk:ks.length<=4000):KC4 290 [Wn cs fs,.O (Cm (.mk o n ks))]=some (.bool (ku n (ks.length:Nat))):=
 Ak (f:=290) (enc:=fun p:kJ=>[Wn p.1.1.1 p.1.1.2,.O (Cm (.mk p.1.2.1 p.1.2.2.1 p.1.2.2.2))]) (res:=fun p=> .bool (ku p.1.2.2.1 (p.1.2.2.2.length:Nat))) (by
  rintro⟨⟨⟨a,b⟩,⟨c,d,e⟩⟩,_⟩ ⟨⟨⟨a',b'⟩,⟨c',d',e'⟩⟩,_⟩ h;obtain⟨rfl,rfl,h⟩:=GE h;cases h;rfl) ⟨((cs,fs),(o,n,ks)),hc,hf,hk⟩
theorem tcon_to (cs fs:List Cw) (o n:Int) (ks:List Cp) (hc:cs.length<=4000) (hf:fs.length<=4000):Co (EK KC4) 286 [Wn cs fs,.O (Cm (.mk o n ks))] S0 (.bool (gj cs n (ks.length:Nat))):=by
 have hlen:=Ek (l:=ks);rw[AN];unfold Wn;refine As U ?_;cases Yi:X1 n 0 ((cs.length:Int)-1)with
 |false=>
  refine Eh U<|Ad (by kernel_rfl)<|Nv 1 U<|Aj U LJ D9 U U U (by kernel_rfl) (.inl U) U U<|Nv 2 U<|Aj U KB Kt U U U (by kernel_rfl) (.inl U) U U<|Nv 1 U<|Nq (X3.sub U ey U U (by omega)) U ?_;refine Na (kC U (E7)) (.inl U) U<|Nq (kq U) U ?_;iterate 12 refine Nk U Yi ?_
  refine Nq (oF U Yi U) U<|Nq (kq U) U<|Cz.done ?_;refine Se (Er U ?_);refine Aa ?_;unfold gj;rw[Yi];rfl
 |true=>
  have hb:0<=n/\n<=(cs.length:Int)-1:=by
   unfold X1 at Yi;rw[Qf]at Yi;exact⟨dT Yi.1,dT Yi.2⟩
  obtain⟨m,rfl⟩:∃m:Nat,n=(m:Int):=⟨n.natAbs,by omega⟩
  have hm:m<cs.length:=by omega
  have dE:=Af Av hm;have Xa:X1 (m:Int) 0 ((cs.length-1:Nat):Int)=true:=by rw[show((cs.length-1:Nat):Int)=(cs.length:Int)-1 by omega];exact Yi
  refine Eh U<|Ad (by kernel_rfl)<|Nv 1 U<|Aj U LJ D9 U U U (by kernel_rfl) (.inl U) U U<|Nv 2 U<|Aj U KB Kt U U U (by kernel_rfl) (.inl U) U U<|Nv 1 U<|Nq (Bj (b:=1) U ey U U (by omega)) U ?_;refine Na (kC U (E7)) (.inl U) U<|Nq (kq U) U<|Ng U Xa (kq U)<|Aj U I0 Gg U U U (by kernel_rfl) (AF U U U U Xa) U U<|Ng U Xa (kn U hlen) ?_;iterate 2 refine Ng U Xa (kq U) ?_
  refine Aj U KB Kt U U U (by kernel_rfl) (AF U U U U Xa) U U<|Ng U Xa (kq U)<|Aj U LJ D9 U U U (by kernel_rfl) (AF U U U U Xa) U U<|Ng U Xa (kv U dE) ?_;iterate 3 refine Ng U Xa (kq U) ?_
  refine Nq (oT U Xa U) U<|Nq (kq U) U<|Cz.done ?_;refine Se (Er U ?_);refine Aa ?_;unfold gj;rw[Yi,HX hm];rfl
noncomputable def KC5:=WA KC4 286 (fun p:kJ=>[Wn p.1.1.1 p.1.1.2,.O (Cm (.mk p.1.2.1 p.1.2.2.1 p.1.2.2.2))]) (fun p=> .bool (gj p.1.1.1 p.1.2.2.1 (p.1.2.2.2.length:Nat)))
theorem PG (hc:cs.length<=4000) (hf:fs.length<=4000) (hk:ks.length<=4000):KC5 286 [Wn cs fs,.O (Cm (.mk o n ks))]=some (.bool (gj cs n (ks.length:Nat))):=
 Ak (f:=286) (enc:=fun p:kJ=>[Wn p.1.1.1 p.1.1.2,.O (Cm (.mk p.1.2.1 p.1.2.2.1 p.1.2.2.2))]) (res:=fun p=> .bool (gj p.1.1.1 p.1.2.2.1 (p.1.2.2.2.length:Nat))) (by
  rintro⟨⟨⟨a,b⟩,⟨c,d,e⟩⟩,_⟩ ⟨⟨⟨a',b'⟩,⟨c',d',e'⟩⟩,_⟩ h;obtain⟨rfl,rfl,h⟩:=GE h;cases h;rfl) ⟨((cs,fs),(o,n,ks)),hc,hf,hk⟩
theorem tfun_to (cs fs:List Cw) (o n:Int) (ks:List Cp) (hc:cs.length<=4000) (hf:fs.length<=4000):Co (EK KC5) 287 [Wn cs fs,.O (Cm (.mk o n ks))] S0 (.bool (gj fs n (ks.length:Nat))):=by
 have hlen:=Ek (l:=ks);rw[AN];unfold Wn;refine As U ?_;cases Yi:X1 n 0 ((fs.length:Int)-1)with
 |false=>
  refine Eh U<|Ad (by kernel_rfl)<|Nv 1 U<|Aj U LJ D9 U U U (by kernel_rfl) (.inl U) U U<|Nv 2 U<|Aj U KB Kt U U U (by kernel_rfl) (.inl U) U U<|Nv 1 U<|Nq (X3.sub U ey U U (by omega)) U ?_;refine Na (kC U (E7)) (.inl U) U<|Nq (kq U) U ?_;iterate 12 refine Nk U Yi ?_
  refine Nq (oF U Yi U) U<|Nq (kq U) U<|Cz.done ?_;refine Se (Er U ?_);refine Aa ?_;unfold gj;rw[Yi];rfl
 |true=>
  have hb:0<=n/\n<=(fs.length:Int)-1:=by
   unfold X1 at Yi;rw[Qf]at Yi;exact⟨dT Yi.1,dT Yi.2⟩
  obtain⟨m,rfl⟩:∃m:Nat,n=(m:Int):=⟨n.natAbs,by omega⟩
  have hm:m<fs.length:=by omega
  have dE:=Af Av hm;have Xa:X1 (m:Int) 0 ((fs.length-1:Nat):Int)=true:=by rw[show((fs.length-1:Nat):Int)=(fs.length:Int)-1 by omega];exact Yi
  refine Eh U<|Ad (by kernel_rfl)<|Nv 1 U<|Aj U LJ D9 U U U (by kernel_rfl) (.inl U) U U<|Nv 2 U<|Aj U KB Kt U U U (by kernel_rfl) (.inl U) U U<|Nv 1 U<|Nq (Bj (b:=1) U ey U U (by omega)) U ?_;refine Na (kC U (E7)) (.inl U) U<|Nq (kq U) U<|Ng U Xa (kq U)<|Aj U I0 Gg U U U (by kernel_rfl) (AF U U U U Xa) U U<|Ng U Xa (kn U hlen) ?_;iterate 2 refine Ng U Xa (kq U) ?_
  refine Aj U KB Kt U U U (by kernel_rfl) (AF U U U U Xa) U U<|Ng U Xa (kq U)<|Aj U LJ D9 U U U (by kernel_rfl) (AF U U U U Xa) U U<|Ng U Xa (kv U dE) ?_;iterate 3 refine Ng U Xa (kq U) ?_
  refine Nq (oT U Xa U) U<|Nq (kq U) U<|Cz.done ?_;refine Se (Er U ?_);refine Aa ?_;unfold gj;rw[Yi,HX hm];rfl
noncomputable def KC6:=WA KC5 287 (fun p:kJ=>[Wn p.1.1.1 p.1.1.2,.O (Cm (.mk p.1.2.1 p.1.2.2.1 p.1.2.2.2))]) (fun p=> .bool (gj p.1.1.2 p.1.2.2.1 (p.1.2.2.2.length:Nat)))
theorem PF (hc:cs.length<=4000) (hf:fs.length<=4000) (hk:ks.length<=4000):KC6 287 [Wn cs fs,.O (Cm (.mk o n ks))]=some (.bool (gj fs n (ks.length:Nat))):=
 Ak (f:=287) (enc:=fun p:kJ=>[Wn p.1.1.1 p.1.1.2,.O (Cm (.mk p.1.2.1 p.1.2.2.1 p.1.2.2.2))]) (res:=fun p=> .bool (gj p.1.1.2 p.1.2.2.1 (p.1.2.2.2.length:Nat))) (by
  rintro⟨⟨⟨a,b⟩,⟨c,d,e⟩⟩,_⟩ ⟨⟨⟨a',b'⟩,⟨c',d',e'⟩⟩,_⟩ h;obtain⟨rfl,rfl,h⟩:=GE h;cases h;rfl) ⟨((cs,fs),(o,n,ks)),hc,hf,hk⟩
theorem yx (cs fs:List Cw) (o n:Int) (ks:List Cp) (hc:cs.length<=4000) (hf:fs.length<=4000):Co (EK KC6) 288 [Wn cs fs,.O (Cm (.mk o n ks))] S0 (.bool (ky fs n (ks.length:Nat))):=by
 have hlen:=Ek (l:=ks);rw[AN];unfold Wn;refine As U ?_;cases Yi:X1 n 0 ((fs.length:Int)-1)with
 |false=>
  refine Eh U<|Ad (by kernel_rfl)<|Nv 1 U<|Aj U LJ D9 U U U (by kernel_rfl) (.inl U) U U<|Nv 2 U<|Aj U KB Kt U U U (by kernel_rfl) (.inl U) U U<|Nv 1 U<|Nq (X3.sub U ey U U (by omega)) U ?_;refine Na (kC U (E7)) (.inl U) U<|Nq (kq U) U ?_;iterate 12 refine Nk U Yi ?_
  refine Nq (oF U Yi U) U<|Nq (kq U) U<|Cz.done ?_;refine Se (Er U ?_);refine Aa ?_;unfold ky;rw[Yi];rfl
 |true=>
  have hb:0<=n/\n<=(fs.length:Int)-1:=by
   unfold X1 at Yi;rw[Qf]at Yi;exact⟨dT Yi.1,dT Yi.2⟩
  obtain⟨m,rfl⟩:∃m:Nat,n=(m:Int):=⟨n.natAbs,by omega⟩
  have hm:m<fs.length:=by omega
  have dE:=Af Av hm;have Xa:X1 (m:Int) 0 ((fs.length-1:Nat):Int)=true:=by rw[show((fs.length-1:Nat):Int)=(fs.length:Int)-1 by omega];exact Yi
  refine Eh U<|Ad (by kernel_rfl)<|Nv 1 U<|Aj U LJ D9 U U U (by kernel_rfl) (.inl U) U U<|Nv 2 U<|Aj U KB Kt U U U (by kernel_rfl) (.inl U) U U<|Nv 1 U<|Nq (Bj (b:=1) U ey U U (by omega)) U ?_;refine Na (kC U (E7)) (.inl U) U<|Nq (kq U) U<|Ng U Xa (kq U)<|Aj U I0 Gg U U U (by kernel_rfl) (AF U U U U Xa) U U<|Ng U Xa (kn U hlen) ?_;iterate 2 refine Ng U Xa (kq U) ?_
  refine Aj U KB Kt U U U (by kernel_rfl) (AF U U U U Xa) U U<|Ng U Xa (kq U)<|Aj U LJ D9 U U U (by kernel_rfl) (AF U U U U Xa) U U<|Ng U Xa (kv U dE) ?_;iterate 3 refine Ng U Xa (kq U) ?_
  refine Nq (oT U Xa U) U<|Nq (kq U) U<|Cz.done ?_;refine Se (Er U ?_);refine Aa ?_;unfold ky;rw[Yi,HX hm];rfl
noncomputable def rP:=WA KC6 288 (fun p:kJ=>[Wn p.1.1.1 p.1.1.2,.O (Cm (.mk p.1.2.1 p.1.2.2.1 p.1.2.2.2))]) (fun p=> .bool (ky p.1.1.2 p.1.2.2.1 (p.1.2.2.2.length:Nat)))
theorem PE (hc:cs.length<=4000) (hf:fs.length<=4000) (hk:ks.length<=4000):rP 288 [Wn cs fs,.O (Cm (.mk o n ks))]=some (.bool (ky fs n (ks.length:Nat))):=
 Ak (f:=288) (enc:=fun p:kJ=>[Wn p.1.1.1 p.1.1.2,.O (Cm (.mk p.1.2.1 p.1.2.2.1 p.1.2.2.2))]) (res:=fun p=> .bool (ky p.1.1.2 p.1.2.2.1 (p.1.2.2.2.length:Nat))) (by
  rintro⟨⟨⟨a,b⟩,⟨c,d,e⟩⟩,_⟩ ⟨⟨⟨a',b'⟩,⟨c',d',e'⟩⟩,_⟩ h;obtain⟨rfl,rfl,h⟩:=GE h;cases h;rfl) ⟨((cs,fs),(o,n,ks)),hc,hf,hk⟩
theorem DL (p:kJ):([Wn p.1.1.1 p.1.1.2,.O (Cm (.mk p.1.2.1 p.1.2.2.1 p.1.2.2.2))]:List AV).all (Cr 40)=true:=by
 show(Cr 40 (Wn _ _)&&(Cr 40 (.O (Cm _))&&true))=true;rw[DH];rfl
theorem tall7 (h:Wh Tryz.prog 10 [] (.bool true)):C6 Tryz.prog rP:=by
 have a1:C6 Tryz.prog KC1:=Aw Au (tall6 h) (fun p:kJ=>Pc p.1.1.1 p.1.1.2 p.1.2.1 p.1.2.2.1 p.1.2.2.2) DL (fun _=>rfl);have a2:C6 Tryz.prog KC2:=Aw Au a1 (fun p:kJ=>SF p.1.1.1 p.1.1.2 p.1.2.1 p.1.2.2.1 p.1.2.2.2) DL (fun _=>rfl);have a3:C6 Tryz.prog KC3:=Aw Au a2 (fun p:kJ=>let_to p.1.1.1 p.1.1.2 p.1.2.1 p.1.2.2.1 p.1.2.2.2) DL (fun _=>rfl);have a4:C6 Tryz.prog KC4:=Aw Au a3 (fun p:kJ=>pair_to p.1.1.1 p.1.1.2 p.1.2.1 p.1.2.2.1 p.1.2.2.2) DL (fun _=>rfl);have a5:C6 Tryz.prog KC5:=Aw Au a4 (fun p:kJ=>tcon_to p.1.1.1 p.1.1.2 p.1.2.1 p.1.2.2.1 p.1.2.2.2 p.2.1 p.2.2.1) DL (fun _=>rfl);have a6:C6 Tryz.prog KC6:=Aw Au a5 (fun p:kJ=>tfun_to p.1.1.1 p.1.1.2 p.1.2.1 p.1.2.2.1 p.1.2.2.2 p.2.1 p.2.2.1) DL (fun _=>rfl);exact Aw Au a6 (fun p:kJ=>yx p.1.1.1 p.1.1.2 p.1.2.1 p.1.2.2.1 p.1.2.2.2 p.2.1 p.2.2.1) DL (fun _=>rfl)
end Go.Proofs.YtpihdbhocgcbpaaGreatDoor
open Go Am
namespace Go.Proofs.YtpihdbhocgcbpaaGreatDoor
mutual
def eC:Cp->Nat
 | .mk _ _ ks=>aM ks+1
def aM:List Cp->Nat
 | []=>0
 |t::ts=>eC t+aM ts
end
mutual
theorem IM:∀(t:Cp) (l d:Int),(0<=WU t l d↔(eC t:Int)<=l/\(Xg t:Int)<=d)/\(0<=WU t l d->WU t l d=l-eC t)
 | .mk o n ks,l,d=>by
  rw[WU,eC,Xg];by_cases h:l<1\/d<1
  .grind
  .rw[if_neg h];obtain⟨h1,h2⟩:=KH ks (l-1) (d-1) (by omega) (by omega);refine⟨h1.trans ⟨fun h=>⟨by omega,by omega⟩,fun h=>⟨by omega,by omega⟩⟩,fun h=>?_⟩;rw[h2 h];omega
theorem KH:∀(ts:List Cp) (l d:Int),0<=l->0<=d->(0<=Yl ts l d↔(aM ts:Int)<=l/\(X9 ts:Int)<=d)/\(0<=Yl ts l d->Yl ts l d=l-aM ts)
 | [],l,d,hl,hd=>by grind [Yl,aM,X9]
 |t::ts,l,d,hl,hd=>by
  rw[Yl,aM,X9,if_pos hl];obtain⟨h1,h2⟩:=IM t l d;by_cases h:0<=WU t l d
  .obtain⟨h3,h4⟩:=KH ts (WU t l d) d h hd;have h5:=h2 h;have h6:=h1.1 h;refine⟨h3.trans ⟨fun h=>⟨by omega,by omega⟩,fun h=>⟨by omega,by omega⟩⟩,fun h=>?_⟩;rw[h4 h,h5];omega
  .grind [IL,eC,Xg]
end
def CM:Cp->Nat->List (Cp×Nat)
 | .mk o n ks,d=>(.mk o n ks,d)::go ks (d+1)
where go:List Cp->Nat->List (Cp×Nat)
 | [],_=>[]
 |t::ts,d=>CM t d++go ts d
def rq (cs fs:List Cw) (o n k:Int):Bool:=X1 o 1 15&&(if o=1 then rm n k else if o=2 then rn n k else if o=3 then gj cs n k else if o=4 then gj fs n k else if o=5 then ky fs n k else if o=8 then rp n k else ku n k)
theorem yy (cs fs:List Cw) (o n k:Int):rq cs fs o n k=YY cs fs o n k:=by
 unfold rq YY;by_cases e1:o=1
 .subst e1;rw[if_pos rfl,if_pos rfl];unfold rm;rw[show X1 1 1 15=true from rfl,Bool.true_and,Bool.and_comm]
 rw[if_neg e1,if_neg e1];by_cases e2:o=2
 .subst e2;rw[if_pos rfl,if_pos rfl];unfold rn;rw[show X1 2 1 15=true from rfl,Bool.true_and,Bool.and_comm]
 rw[if_neg e2,if_neg e2];by_cases e3:o=3
 .subst e3;rw[if_pos rfl,if_pos rfl];unfold gj;rw[show X1 3 1 15=true from rfl,Bool.true_and]
 rw[if_neg e3,if_neg e3];by_cases e4:o=4
 .subst e4;rw[if_pos rfl,if_pos rfl];unfold gj;rw[show X1 4 1 15=true from rfl,Bool.true_and]
 rw[if_neg e4,if_neg e4];by_cases e5:o=5
 .subst e5;rw[if_pos rfl,if_pos rfl];unfold ky;rw[show X1 5 1 15=true from rfl,Bool.true_and]
 rw[if_neg e5,if_neg e5];by_cases e8:o=8
 .subst e8;rw[if_pos rfl,if_pos rfl];unfold rp;rw[show X1 8 1 15=true from rfl,Bool.true_and,Bool.and_comm]
 rw[if_neg e8,if_neg e8];unfold ku X1;by_cases h:6<=o/\o<=15
 .grind
 .grind
def gp (cs fs:List Cw) (i:Nat) (x:Cp×Nat):Bool:=decide (i+1<=40)&&decide (x.2<=12)&&rq cs fs x.1.op x.1.n (x.1.g.length:Nat)
def eD (cs fs:List Cw):Nat->List (Cp×Nat)->Bool
 |_,[]=>true
 |i,x::xs=>gp cs fs i x&&eD cs fs (i+1) xs
theorem QN {cs fs:List Cw}:∀ {xs:List (Cp×Nat)} {i:Nat},eD cs fs i xs=true↔(xs=[]\/i+xs.length<=40)/\(∀x∈xs,x.2<=12)/\∀x∈xs,rq cs fs x.1.op x.1.n (x.1.g.length:Nat)=true
 | [],i=>⟨fun _=>⟨.inl rfl,(fun _ h=>by cases h),fun _ h=>by cases h⟩,fun _=>rfl⟩
 |x::xs,i=>by
  rw[eD,Qf,QN (xs:=xs) (i:=i+1)];unfold gp;rw[Qf,Qf,decide_eq_true_iff,decide_eq_true_iff,List.length_cons];constructor
  .grind
  .grind
mutual
theorem NL:∀(t:Cp) (d:Nat),(CM t d).length=eC t
 | .mk o n ks,d=>by rw[CM,List.length_cons,UW ks,eC]
theorem UW:∀(ts:List Cp) (d:Nat),(CM.go ts d).length=aM ts
 | [],_=>rfl
 |t::ts,d=>by rw[CM.go,Qm,NL t,UW ts,aM]
end
mutual
theorem KX:∀(t:Cp) (d m:Nat),(∀x∈CM t d,x.2<=m)↔d+Xg t<=m+1
 | .mk o n ks,d,m=>by
  rw[CM,Xg,List.forall_mem_cons,Rn ks (d+1) m];constructor
  .grind [X9]
  .grind
theorem Rn:∀(ts:List Cp) (d m:Nat),(∀x∈CM.go ts d,x.2<=m)↔(ts=[]\/d+X9 ts<=m+1)
 | [],_,_=>⟨fun _=> .inl rfl,fun _ _ h=>by cases h⟩
 |t::ts,d,m=>by
  rw[CM.go,List.forall_mem_append,KX t d m,Rn ts d m,X9];have:=EX t;constructor
  .grind [X9]
  .grind
end
mutual
theorem NN {cs fs:List Cw}:∀(t:Cp) (d:Nat),(∀x∈CM t d,rq cs fs x.1.op x.1.n (x.1.g.length:Nat)=true)↔ZF cs fs t=true
 | .mk o n ks,d=>by
  rw[CM,ZF,List.forall_mem_cons,UY ks (d+1),Qf,<-yy];rfl
theorem UY {cs fs:List Cw}:∀(ts:List Cp) (d:Nat),(∀x∈CM.go ts d,rq cs fs x.1.op x.1.n (x.1.g.length:Nat)=true)↔ee cs fs ts=true
 | [],_=>⟨fun _=>rfl,fun _ _ h=>by cases h⟩
 |t::ts,d=>by
  rw[CM.go,ee,List.forall_mem_append,NN t d,UY ts d,Qf]
end
theorem No (cs fs:List Cw) (t:Cp):eD cs fs 0 (CM t 1)=Xt cs fs t:=by
 have h1:=QN (cs:=cs) (fs:=fs) (xs:=CM t 1) (i:=0);rw[NL,KX,NN]at h1;have h2:Xt cs fs t=true↔((eC t:Int)<=40/\(Xg t:Int)<=12)/\ZF cs fs t=true:=by simp_all [Qf,Xt,eC,Xg,IM]
 have Yh:CM t 1≠ []:=by cases t;rw[CM];exact List.cons_ne_nil _ _
 have:eD cs fs 0 (CM t 1)=true↔Xt cs fs t=true:=by grind
 cases h3:eD cs fs 0 (CM t 1)<;>cases h4:Xt cs fs t<;>rw[h3,h4]at this<;>simp_all
end Go.Proofs.YtpihdbhocgcbpaaGreatDoor
open Go Am
namespace Go.Proofs.YtpihdbhocgcbpaaGreatDoor
variable {K : FuncId -> List AV -> Option AV}
structure VisH (K:FuncId->List AV->Option AV) (b base:Nat) (L:List (Cp×Nat)) (C:Nat->Nat->Tr CG->Prop) (D:Nat->Tr CG->Prop):Prop where
 a:∀ {j n h n' h'},C j n h->n<=n'->(∀d,d<n->h'.g d=h.g d)->C j n' h'
 f:∀ {n h n' h'},D n h->n<=n'->(∀d,d<n->h'.g d=h.g d)->D n' h'
 g:∀j (hj:j<L.length) (st:St),base<=st.c->st.c<=st.a->C j st.a st.b->C_ (EK K) b [.O (Cm L[j].1),.int .i64 (L[j].2:Nat)] st fun v s'=>st.a<=s'.a/\s'.c=st.c/\b∈s'.d/\(∀d∈s'.d,d∈st.d\/d<st.c)/\
  (∀d,base<=d->d<st.a->s'.b.g d=st.b.g d)/\(v=true->C (j+1) s'.a s'.b)/\(v=false->D s'.a s'.b)
 e:∀ {j n h} (hj:j<L.length),C (j+1) n h->L[j].2<=4000
 c:b<base
def n9 (b base:Nat) (s:St) (j m:Nat) (C:Nat->Nat->Tr CG->Prop) (D:Nat->Tr CG->Prop) (v:AV) (s3:St):Prop:=
 s3.c=s.c/\s.a<=s3.a/\((∀d∈s3.d,d∈s.d\/d<s.c)/\∀d∈s.d,d∈s3.d)/\(∀d,base<=d->d<s.a->s3.b.g d=s.b.g d)/\(b<s.c->m≠0->b∈s3.d)/\∃r,v= .bool r/\(r=true->C (j+m) s3.a s3.b)/\(r=false->D s3.a s3.b)
def At (L:List (Cp×Nat)) (j:Nat) (M:List (Cp×Nat)):Prop:=j+M.length<=L.length/\∀i (hi:i<M.length),L[j+i]?=some M[i]
variable {R:AV->St->Prop} {r:Bool} {c:Code} {x:Cp×Nat} {fn:Func} {f:FuncId} {A B M:List (Cp×Nat)} {args:List AV} {ks:List Cp} {rs:List ResultVar} {VZ bd bv d dep i j:Nat} {s:St}
theorem At.app {L:List (Cp×Nat)} (h:At L j (A++B)):At L j A/\At L (j+A.length) B:=by
 obtain⟨h1,h2⟩:=h;rw[Qm]at h1;refine⟨⟨by omega,fun i hi=>?_⟩,by omega,fun i hi=>?_⟩
 .rw[h2 i (by rw[Qm];omega),List.getElem_append_left]
 .rw[Nat.add_assoc,h2 (A.length+i) (by rw[Qm];omega),List.getElem_append_right (by omega)];simp
theorem At.cons {L:List (Cp×Nat)} (h:At L j (x::M)):(∃hj:j<L.length,L[j]=x)/\At L (j+1) M:=by
 have h2:=At.app (A:=[x]) (B:=M) h;refine⟨?_,h2.2⟩;have h3:=h2.1.2 0 (Nat.zero_lt_one);have h4:j<L.length:=h2.1.1;refine⟨h4,?_⟩;rw[Nat.add_zero,Qi h4]at h3;exact Option.some.inj h3
section
variable {b base : Nat} {L : List (Cp × Nat)} {C : Nat -> Nat -> Tr CG -> Prop} {D : Nat -> Tr CG -> Prop}
theorem G3 {fr:Fr} {l0:Sl} (hm:K f args=none) (hz:(EK K).g f=1) (hf:(EK K).a.g f=some fn) (hc:fn.body=some c) (hr:fn.results.toList=rs)
 (Z6:n_ fn.ntmps args none=fr) (hl:YW 0 args []=l0) (h:Cu (EK K) c fr l0 s.u fun ex fr l st=>(ex= .Y\/ex= .J)/\fr.defers=[]/\∃r,CK (EK K) st l rs=some [.bool r]/\(st.d=[]->R (.bool r) s)/\R (.bool r) (s.G st)):Wm (EK K) f args s R:=by
 refine Wm.gen hm hf hc hr Z6 hl (h.mono fun ex fr l st ⟨h1,h2,r,h3,h4,h5⟩=>⟨h1,st,by rw[h2];rfl,[.bool r],h3,?_⟩);exact Fz hz (fun _ _=>rfl) (fun _=>rfl) h4 fun _=>h5
theorem JY {n:Nat} {l:List Nat} {d:Nat} (h:d∈l):∀M,d∈below n M l
 | []=>h
 |b::M=>by
  unfold below;cases Nat.blt b n with
  |true=>exact Qg _ (JY h M)
  |false=>exact JY h M
theorem n9.fin {st:St} {m:Nat} (hn:s.a<=st.a) (Z6:∀d,base<=d->d<s.a->st.b.g d=s.b.g d) (hb:m≠0->b∈st.d) (hC:r=true->C (j+m) st.a st.b) (hD:r=false->D st.a st.b):n9 b base s j m C D (.bool r) (s.G st):=
 ⟨rfl,hn,⟨fun d hd=>by
  rcases Ds hd with h|⟨_,h⟩
  .exact .inl h
  .exact .inr h,fun d hd=>JY hd _⟩,Z6,fun C5 hm=>BV (hb hm) C5,r,rfl,hC,hD⟩
def visV (VZ bv:Nat):AV:= .an (.func 292) [] [.J VZ 0,.J bv 0]
structure kK (b base VZ bv:Nat) (s:St):Prop where
 a:base<=s.c
 c:s.c<=s.a
 y:base<=VZ/\VZ<s.a
 v:base<=bv/\bv<s.a
 d:s.b.g VZ=some (.J [.an (.yield b) [] []] 362 false)
 e:s.b.g bv=some (.J [visV VZ bv] 362 false)
theorem kK.g (h:kK b base VZ bv s):kK b base VZ bv s.u:=⟨Nat.le_trans h.a h.c,Qj _,h.y,h.v,h.d,h.e⟩
theorem kK.u {s':St} (h:kK b base VZ bv s) (hb:s'.c=s.c) (hn:s.a<=s'.a) (hf:∀d,base<=d->d<s.a->s'.b.g d=s.b.g d):kK b base VZ bv s':=
 ⟨by rw[hb];exact h.a,by rw[hb];exact Nat.le_trans h.c hn,⟨h.y.1,Nat.lt_of_lt_of_le h.y.2 hn⟩,⟨h.v.1,Nat.lt_of_lt_of_le h.v.2 hn⟩,(hf _ h.y.1 h.y.2).trans h.d,(hf _ h.v.1 h.v.2).trans h.e⟩
def VisD (b base VZ bv:Nat) (L:List (Cp×Nat)) (C:Nat->Nat->Tr CG->Prop) (D:Nat->Tr CG->Prop) (d:Nat):Prop:=
 ∀(t:Cp) (j dep:Nat) (s:St),Xg t<=d->WV t->At L j (CM t dep)->kK b base VZ bv s->C j s.a s.b->Wm (EK rP) 292 [.O (Cm t),.int .i64 (dep:Nat),.J VZ 0,.J bv 0] s (n9 b base s j (CM t dep).length C D)
theorem Jo (t:Cp) (d:Nat):0<(CM t d).length:=by cases t;exact Nat.succ_pos _
theorem V6 (H:VisH rP b base L C D) (hV:VisD b base VZ bv L C D d) {t:Cp} (ht:Xg t<=d) (hs:WV t) (hA:At L j (CM t (dep+1))) (hB:kK b base VZ bv s) (hC:C j s.a s.b) (qJ:dep<=4000)
 (YH:base<=bd/\bd<s.a) (gd:s.b.g bd=some (.J [.int .i64 (dep:Nat)] 3 false)):Wm (EK rP) 293 [.O (Cm t),.J bv 0,.J bd 0] s (n9 b base s j (CM t (dep+1)).length C D):=by
 refine G3 (fn:=Tryz.f293) U U (by kernel_rfl) U U U U ?_;have e0:=A4 t;rw[e0];have g1:(s.u.g (.J [.int .i64 t.op,.int .i64 t.n,CI t.g] 39 false)).b.g bv=some (.J [.an (.func 292) [] [.J VZ 0,.J bv 0]] 362 false):=(Ap hB.v.2).trans hB.e;have g2:(s.u.g (.J [.int .i64 t.op,.int .i64 t.n,CI t.g] 39 false)).b.g bd=some (.J [.int .i64 (dep:Nat)] 3 false):=(Ap YH.2).trans gd;have g3:(s.u.g (.J [.int .i64 t.op,.int .i64 t.n,CI t.g] 39 false)).b.g s.a=some (.J [.int .i64 t.op,.int .i64 t.n,CI t.g] 39 false):=Ax;have hB2:kK b base VZ bv (s.u.g (.J [.int .i64 t.op,.int .i64 t.n,CI t.g] 39 false)):=hB.g.u rfl (Nat.le_succ _) fun d _ hd=>Ap hd
 have hC2:=H.a hC (Nat.le_succ s.a) (h':=(s.u.g (.J [.int .i64 t.op,.int .i64 t.n,CI t.g] 39 false)).b) fun d hd=>Ap hd;have hr:=hV t j (dep+1) _ ht hs hA hB2 hC2;rw[e0]at hr;refine Es<|Lo (BR U U U) U<|Lw U<|Es<|Lo (kl U g1 U) U<|Lo (kL U g3 U) U<|Lo (kl U g2 U) U ?_;refine Lq (ka (b:=1) U (by omega)) U ?_;refine Dy (by kernel_rfl) U U U U U U U U (Wm.mono hr ?_);rintro v s' ⟨e1,e2,e3,e4,e5,r,rfl,e6,e7⟩;have e2':s.a+1<=s'.a:=e2;have fk:b<s.a:=Nat.lt_of_lt_of_le H.c (Nat.le_trans hB.a hB.c);have CU:=e5 fk (Nat.ne_of_gt (Jo ..));refine Lw U<|Se ?_;exact⟨.inl U,rfl,r,Ac U U,fun h=>absurd h (List.ne_nil_of_mem CU),n9.fin (by omega) (fun c h1 h2=>(e4 c h1 (Nat.lt_succ_of_lt h2)).trans (Ap h2)) (fun _=>CU) e6 e7⟩
theorem UX (a b:List Cp) (d:Nat):CM.go (a++b) d=CM.go a d++CM.go b d:=by
 induction a with
 |nil=>rfl
 |cons t a ih=>rw[List.cons_append,CM.go,CM.go,ih,List.append_assoc]
theorem goL_at (h:i<ks.length):CM.go ks d=CM.go (ks.take i) d++(CM ks[i] d++CM.go (ks.drop (i+1)) d):=by
 conv=>lhs;rw[<-List.take_append_drop i ks,List.drop_eq_getElem_cons h]
 rw[UX,CM.go]
theorem yz (h:i<ks.length):(CM.go (ks.take (i+1)) d).length=(CM.go (ks.take i) d).length+(CM ks[i] d).length:=by
 rw[List.take_add_one,Qi h,Option.toList_some,UX,Qm,CM.go,CM.go,List.append_nil]
theorem y8 (H:VisH rP b base L C D) (hV:VisD b base VZ bv L C D d) (hd:∀t∈ks,Xg t<=d) (hs:∀t∈ks,WV t) (hk:ks.length<=4000) (hA:At L j (CM.go ks (dep+1))) (hB:kK b base VZ bv s) (hC:C j s.a s.b) (qJ:dep<=4000)
 (YH:base<=bd/\bd<s.a) (gd:s.b.g bd=some (.J [.int .i64 (dep:Nat)] 3 false)):Wm (EK rP) 200 [CI ks,.an (.func 293) [] [.J bv 0,.J bd 0]] s (n9 b base s j (CM.go ks (dep+1)).length C D):=by
 refine G3 (fn:=Tryz.f200) U U (by kernel_rfl) U U U U ?_;have hlen:=Ek (l:=ks);have fk:b<s.a:=Nat.lt_of_lt_of_le H.c (Nat.le_trans hB.a hB.c);refine Ew U<|Sq<|Es<|qm U<|Lq (kn U hlen) U<|Lw U<|Sb ?_;refine Ai (fun y:Nat×St=>([(9,.int .i64 (y.1:Nat)),(8,.int .i64 (ks.length:Nat)),(7,CI ks),(1,.an (.func 293) [] [.J bv 0,.J bd 0])],y.2)) (fun y=>ks.length-y.1)
  (fun y=>y.1<=ks.length/\y.2.c=s.a/\s.a<=y.2.a/\(∀d,base<=d->d<s.a->y.2.b.g d=s.b.g d)/\(y.1≠0->b∈y.2.d)/\C (j+(CM.go (ks.take y.1) (dep+1)).length) y.2.a y.2.b)
  (0,s.u) ⟨Qo _,rfl,Qj _,fun _ _ _=>rfl,fun h=>absurd rfl h,hC⟩ rfl (Ab (by repeat' constructor)) ?_
 rintro⟨i,st⟩ ⟨hi,hbo,ZL,Z6,Yc,hCi⟩;dsimp only at hi hbo ZL Z6 Yc hCi|-;by_cases h:i<ks.length
 .have dE:=Od h;have e0:=A4 ks[i];rw[e0]at dE;obtain⟨a1,a2,a3,a4,a5,a6,a7⟩:=AU (st:=st) (z:=[.int .i64 0,.int .i64 0,.Ca]) (cs:=[.int .i64 ks[i].op,.int .i64 ks[i].n,CI ks[i].g]) (T:=39);have a8:=a6 (by rw[hbo];exact ZL);focus
   refine Ew U<|Sq ?_;refine Cd U (fun h1=>?_) (fun h1=>?_);refine Sk<|Sq<|Sb<|Es<|Lq (kv U dE) U<|Lv 1 U<|Lo (kz U) U<|Ln (kw U a1 U) U<|Ld<|Es<|qm U<|Lo (kL U a2 U) U ?_;rotate_left;exact absurd h1 (by omega)
  have hBi:kK b base VZ bv ((st.g (.J [.int .i64 0,.int .i64 0,.Ca] 39 false)).z st.a (some (.J [.int .i64 ks[i].op,.int .i64 ks[i].n,CI ks[i].g] 39 false))):=hB.g.u (a5.trans hbo) (by rw[a7];exact Nat.le_succ_of_le ZL) fun c h1 h2=>(a4 c (Nat.lt_of_lt_of_le h2 ZL)).trans (Z6 c h1 h2);have hCj:=H.a hCi (by rw[a7];exact Nat.le_succ _:st.a<=((st.g (.J [.int .i64 0,.int .i64 0,.Ca] 39 false)).z st.a (some (.J [.int .i64 ks[i].op,.int .i64 ks[i].n,CI ks[i].g] 39 false))).a) a4;have hAi:=hA;rw[goL_at h]at hAi
  have hr:=V6 H hV (s:=((st.g (.J [.int .i64 0,.int .i64 0,.Ca] 39 false)).z st.a (some (.J [.int .i64 ks[i].op,.int .i64 ks[i].n,CI ks[i].g] 39 false)))) (bd:=bd) (hd _ (Ql h)) (hs _ (Ql h)) hAi.app.2.app.1 hBi hCj qJ ⟨YH.1,by rw[a7];omega⟩ ((a4 bd (by omega)).trans ((Z6 bd YH.1 YH.2).trans gd));rw[e0]at hr;refine Dy (by kernel_rfl) U U U U U U U U (Wm.mono hr ?_);rintro v s' ⟨e1,e2,e3,e4,e5,r,rfl,e6,e7⟩;rw[a5,hbo]at e1 e5;rw[a7]at e2;have CU:=e5 fk (Nat.ne_of_gt (Jo ..));have hfr2:∀d,base<=d->d<s.a->s'.b.g d=s.b.g d:=fun c h1 h2=>(e4 c h1 (by rw[a7];omega)).trans ((a4 c (by omega)).trans (Z6 c h1 h2));cases r with
  |true=>
   refine Lw U<|Tf U<|Sk<|Sr ?_;refine Lq (ka (b:=1) U (by omega)) U ?_;refine Lw U ?_;refine⟨(i+1,s'),⟨h,e1,by show s.a<=s'.a;omega,hfr2,fun _=>CU,?_⟩,by show ks.length-(i+1)<ks.length-i;omega,rfl,rfl,Ab (by repeat' constructor)⟩;rw[yz h,<-Nat.add_assoc];exact e6 U
  |false=>
   refine Lw U<|Tt U<|Ew U<|Se ?_;exact⟨.inl U,rfl,false,Ac U U,fun h=>absurd h (List.ne_nil_of_mem CU),n9.fin (by omega) hfr2 (fun _=>CU) (fun h=>by cases h) e7⟩
 .obtain rfl:i=ks.length:=by omega
  rw[List.take_length]at hCi;focus
   refine Ew U<|Sq ?_;refine Cd U (fun h1=>?_) (fun h1=>?_);exact absurd h1 (by omega);refine Sx<|A0 U<|Ew U ?_;rotate_left
  refine Se ?_;refine⟨.inl U,rfl,true,Ac U U,fun h=>?_,n9.fin ZL Z6 (fun hm=>Yc fun h0=>hm ?_) (fun _=>hCi) fun h=>by cases h⟩
  .have h0:ks.length=0:=Decidable.byContradiction fun hn=>List.ne_nil_of_mem (Yc hn) h;obtain rfl:=List.length_eq_zero_iff.1 h0;exact⟨rfl,Qj _,⟨fun d hd=> .inl hd,fun d hd=>hd⟩,fun _ _ _=>rfl,fun _ hm=>absurd U hm,true,rfl,fun _=>hC,fun h=>by cases h⟩
  .obtain rfl:=List.length_eq_zero_iff.1 h0;rfl
theorem Tx (H:VisH rP b base L C D) :∀d,VisD b base VZ bv L C D d:=by
 intro d;induction d with
 |zero=>intro t j dep s ht;rw[EX]at ht;omega
 |succ d ih=>
  intro t j dep s ht hs hA hB hC;obtain⟨o,n,ks⟩:=t;cases hs with
  |mk hk tM=>
  have fk:b<s.a:=Nat.lt_of_lt_of_le H.c (Nat.le_trans hB.a hB.c);have eN:base<=s.a:=Nat.le_trans hB.a hB.c;have hdk:∀t∈ks,Xg t<=d:=fun t h=>by have:=FW h;have:X9 ks+1<=d+1:=ht;omega
  have hAc:=hA;rw[CM]at hAc;obtain⟨⟨hj,hLj⟩,hA2⟩:=hAc.cons;refine G3 (fn:=Tryz.f292) U U (by kernel_rfl) U U U U ?_;obtain⟨sB,YP⟩:∃x,x=(s.u.g (.J [.int .i64 o,.int .i64 n,CI ks] 39 false)).g (.J [.int .i64 (dep:Nat)] 3 false):=⟨_,rfl⟩
  have nB:sB.a=s.a+2:=by rw[YP];rfl
  have bB:sB.c=s.a:=by rw[YP];rfl
  have oB:∀d,d<s.a->sB.b.g d=s.b.g d:=fun d hd=>by rw[YP];exact(Ap (Nat.lt_succ_of_lt hd)).trans (Ap hd)
  have g0:sB.b.g s.a=some (.J [.int .i64 o,.int .i64 n,CI ks] 39 false):=by rw[YP];exact(Ap (Nat.lt_succ_self _)).trans Ax
  have g1:sB.b.g (s.a+1)=some (.J [.int .i64 (dep:Nat)] 3 false):=by rw[YP];exact Ax
  have gy:sB.b.g VZ=some (.J [.an (.yield b) [] []] 362 false):=(oB _ hB.y.2).trans hB.d;have hy:=H.g j hj sB (by omega) (by omega) (H.a hC (by omega) oB);rw[hLj]at hy;rw[AN]at hy|-;refine Es ?_;iterate 2 refine Lo (BR U U U) U ?_
  refine Lw U<|Es ?_;show CA _ _ _ _ _ _ ((s.u.g (.J [.int .i64 o,.int .i64 n,CI ks] 39 false)).g (.J [.int .i64 (dep:Nat)] 3 false)) _;rw[<-YP];refine Lo (kl U gy U) U<|Lo (kL U g0 U) U<|Lo (kl U g1 U) U<|EZ U U U U U U U hy ?_;rintro v s' ⟨y1,y2,y3,y4,y5,y6,y7⟩;have f0:∀d,base<=d->d<s.a->s'.b.g d=s.b.g d:=fun d h1 h2=>(y5 d h1 (by omega)).trans (oB d h2);have g0':=(y5 s.a eN (by omega)).trans g0;have g1':=(y5 (s.a+1) (by omega) (by omega)).trans g1;cases v with
  |false=>
   refine Lw U<|Se ?_;exact⟨.inl U,rfl,false,Ac U U,fun h=>absurd h (List.ne_nil_of_mem y3),n9.fin (by omega) f0 (fun _=>y3) (fun h=>by cases h) y7⟩
  |true=>
   have hr:=y8 H ih (s:=s') (j:=j+1) (dep:=dep) (bd:=s.a+1) (VZ:=VZ) (bv:=bv) hdk tM hk hA2 (hB.g.u (y2.trans bB) (show s.a<=s'.a by omega) f0) (y6 rfl) (by have:=H.e hj (y6 rfl);rw[hLj]at this;exact this) ⟨by omega,by omega⟩ g1';refine Lv 2 U<|Lg U U (kl U g0' U)<|Lv 1 U<|Fa U U U U U ?_;refine kf U (Wm.mono hr ?_);rintro w s3 ⟨e1,e2,e3,e4,e5,r,rfl,e6,e7⟩;refine Lw U<|Se ?_;have CU:b∈s3.d:=e3.2 b y3;refine⟨.inl U,rfl,r,Ac U U,fun h=>absurd h (List.ne_nil_of_mem CU),n9.fin (by omega) (fun c h1 h2=>(e4 c h1 (by omega)).trans (f0 c h1 h2)) (fun _=>CU) (fun h=>?_) e7⟩;rw[CM,List.length_cons,Nat.add_comm _ 1,<-Nat.add_assoc];exact e6 h
end
end Go.Proofs.YtpihdbhocgcbpaaGreatDoor
open Go Am
namespace Go.Proofs.YtpihdbhocgcbpaaGreatDoor
variable {bt:Nat}
section
variable {b : Nat} {L : List (Cp × Nat)} {C : Nat -> Nat -> Tr CG -> Prop} {D : Nat -> Tr CG -> Prop}
def AllN (s:St) (L:List (Cp×Nat)) (C:Nat->Nat->Tr CG->Prop) (D:Nat->Tr CG->Prop):AV->St->Prop:=fun _ s3=>s3.c=s.c/\s.a<=s3.a/\(∀d∈s3.d,d∈s.d\/d<s.c)/\(C L.length s3.a s3.b\/D s3.a s3.b)
theorem Uz {s:St} {t:Cp} (H:VisH rP b s.a (CM t 1) C D) (hs:WV t) (hC:C 0 s.a s.b) (hbt:bt<s.a) (gt:s.b.g bt=some (.J (Cm t) 39 false)):
 Wm (EK rP) 291 [.an (.yield b) [] [],.J bt 0] s (AllN s (CM t 1) C D):=by
 refine Wm.unit (fn:=Tryz.f291) U (by kernel_rfl) U U U U ?_;obtain⟨sB,YP⟩:∃x,x=s.u.g (.J [.an (.yield b) [] []] 362 false):=⟨_,rfl⟩
 have nB:sB.a=s.a+1:=by rw[YP];rfl
 have bB:sB.c=s.a:=by rw[YP];rfl
 have oB:∀d,d<s.a->sB.b.g d=s.b.g d:=fun d hd=>by rw[YP];exact Ap hd
 have g0:sB.b.g s.a=some (.J [.an (.yield b) [] []] 362 false):=by rw[YP];exact Ax
 obtain⟨a1,a2,a3,a4,a5,a6,a7⟩:=AU (st:=sB) (z:=[.C7]) (cs:=[.an (.func 292) [] [.J s.a 0,.J sB.a 0]]) (T:=362);have e0:=A4 t;rw[e0]at gt;refine Es<|Lo (BR U U U) U<|Ld ?_;show Cu _ _ _ _ (s.u.g (.J [.an (.yield b) [] []] 362 false)) _;rw[<-YP];have gt2:=(a4 bt (by omega)).trans ((oB bt hbt).trans gt);have hB:kK b s.a s.a sB.a ((sB.g (.J [.C7] 362 false)).z sB.a (some (.J [.an (.func 292) [] [.J s.a 0,.J sB.a 0]] 362 false))):=
  ⟨by rw[a5];omega,by rw[a5,a7];omega,⟨Qj _,by rw[a7];omega⟩,⟨by omega,by rw[a7];omega⟩,(a4 s.a (by omega)).trans g0,a2⟩
 have hC2:=H.a hC (show s.a<=((sB.g (.J [.C7] 362 false)).z sB.a (some (.J [.an (.func 292) [] [.J s.a 0,.J sB.a 0]] 362 false))).a by rw[a7];omega) fun d hd=>(a4 d (by omega)).trans (oB d hd);have hr:=Tx H (Xg t) t 0 1 _ (Qj _) hs ⟨by rw[Nat.zero_add];exact Qj _,fun i hi=>by rw[Nat.zero_add];exact Qi hi⟩ hB hC2;rw[e0]at hr;refine Es<|Lo (kz U) U<|Ld<|Es<|Lv 1 U<|Ln (kw U a1 U) U<|Ld<|Sr<|Lo (kl U a2 U) U<|Lo (kL U gt2 U) U ?_;refine Dy (by kernel_rfl) U U U U U U U U (Wm.mono hr ?_);rintro v s' ⟨e1,e2,e3,e4,e5,r,rfl,e6,e7⟩;rw[a5,bB]at e1 e5;rw[a7]at e2;have CU:=e5 H.c (Nat.ne_of_gt (Jo ..));refine Ld ?_;refine⟨.inr U,rfl,fun h=>absurd h (List.ne_nil_of_mem CU),rfl,by show s.a<=s'.a;omega,fun d hd=>?_,?_⟩
 .rcases Ds hd with h|⟨_,h⟩
  .exact .inl h
  .exact .inr h
 .rw[Nat.zero_add]at e6;cases r with
  |true=>exact .inl (e6 rfl)
  |false=>exact .inr (e7 rfl)
end
end Go.Proofs.YtpihdbhocgcbpaaGreatDoor
open Go Am
namespace Am
variable {a:Code} {Q:Ex->Fr->Sl->St->Prop}
theorem Az {E:c_} {fr:Fr} {l:Sl} {s:St} (h:∀s',s'=s->Cu E a fr l s' Q):Cu E a fr l s Q:=h s rfl
end Am
namespace Go.Proofs.YtpihdbhocgcbpaaGreatDoor
def lpR (nt:Nat) (T:Tr AV) (ps:List Nat) (a b:Code):bV:= {a:= .ready,b:=none,d:=0,nt,c:=T,params:=ps,assign:=a,body:=b}
variable {R:AV->St->Prop} {a:Code} {cs fs:List Cw} {ps:List Nat} {d n n' nt:Nat} {s:St} {T:Tr AV} {h h':Tr CG}
theorem y9 {b:Code} :(Zp s nt T ps a b).b.g (s.a+1)=some (.O (lpR nt T ps a b)):=Ax
theorem yA {b:Code} :(Zp s nt T ps a b).b.g s.a=some (.Z true):=(Ap (Nat.lt_succ_self _)).trans Ax
theorem Fl {b:Code} (h:d<s.a):(Zp s nt T ps a b).b.g d=s.b.g d:=(Ap (Nat.lt_succ_of_lt h)).trans (Ap h)
def tabT:List AV:=[.C7,.an (.func 284) [] [],.an (.func 285) [] [],.an (.func 286) [] [],.an (.func 287) [] [],.an (.func 288) [] [],.an (.func 290) [] [],.an (.func 290) [] [],.an (.func 289) [] [],.an (.func 290) [] [],.an (.func 290) [] [],.an (.func 290) [] [],.an (.func 290) [] [],.an (.func 290) [] [],.an (.func 290) [] [],.an (.func 290) [] []]
structure U' (cs fs:List Cw) (lp:bV) (L:List (Cp×Nat)) (j n:Nat) (h:Tr CG):Prop where
 g0:h.g 0=some (.J [Cq Ok 2 cs,Cq Ok 2 fs] 24 false)
 c:h.g 2=some (.J [.bool false] 4 false)
 g3:h.g 3=some (.J tabT 330 false)
 g4:h.g 4=some (.J [.int .i64 (j:Nat)] 3 false)
 d:h.g 6=some (.Z true)
 b:h.g 7=some (.O lp)
 a:∀i (hi:i<L.length),i<j->gp cs fs i L[i]=true
 lt:8<=n
structure FmD (cs fs:List Cw) (L:List (Cp×Nat)) (n:Nat) (h:Tr CG):Prop where
 g2:h.g 2=some (.J [.bool false] 4 false)
 df:h.g 6=some (.Z true)
 lp:∃lp,h.g 7=some (.O lp)/\lp.a= .done/\lp.b=some .ret
 no:eD cs fs 0 L=false
 lt:8<=n
theorem U'.g {lp:bV} {L:List (Cp×Nat)} {j:Nat} (H:U' cs fs lp L j n h) (hn:n<=n') (hh:∀d,d<n->h'.g d=h.g d):U' cs fs lp L j n' h':=by
 have:=H.lt;exact⟨(hh 0 (by omega)).trans H.g0,(hh 2 (by omega)).trans H.c,(hh 3 (by omega)).trans H.g3,(hh 4 (by omega)).trans H.g4,(hh 6 (by omega)).trans H.d,(hh 7 (by omega)).trans H.b,H.a,Nat.le_trans this hn⟩
theorem FmD.g {L:List (Cp×Nat)} (H:FmD cs fs L n h) (hn:n<=n') (hh:∀d,d<n->h'.g d=h.g d):FmD cs fs L n' h':=by
 have:=H.lt;obtain⟨lp,l1,l2⟩:=H.lp;exact⟨(hh 2 (by omega)).trans H.g2,(hh 6 (by omega)).trans H.df,⟨lp,(hh 7 (by omega)).trans l1,l2⟩,H.no,Nat.le_trans this hn⟩
theorem TJ {cs fs:List Cw}:∀ {L:List (Cp×Nat)} {k i:Nat} (hi:i<L.length),gp cs fs (k+i) L[i]=false->eD cs fs k L=false
 |x::L,k,0,_,h=>by rw[eD,show gp cs fs k x=false from h];rfl
 |x::L,k,i+1,hi,h=>by
  rw[eD,TJ (L:=L) (k:=k+1) (i:=i) (Nat.lt_of_succ_lt_succ hi) (by rw[Nat.add_assoc,Nat.add_comm 1 i];exact h),Bool.and_false]
theorem QM {cs fs:List Cw}:∀ {L:List (Cp×Nat)} {k:Nat},(∀i (hi:i<L.length),gp cs fs (k+i) L[i]=true)->eD cs fs k L=true
 | [],_,_=>rfl
 |x::L,k,h=>by
  rw[eD,show gp cs fs k x=true from h 0 (Nat.zero_lt_succ _),QM (L:=L) (k:=k+1) fun i hi=>by
   have:=h (i+1) (Nat.succ_lt_succ hi);rw[<-Nat.add_assoc,Nat.add_right_comm]at this;exact this];rfl
mutual
theorem KV:∀(t:Cp) (d:Nat),WV t->∀x∈CM t d,WV x.1
 | .mk o n ks,d,h,x,hx=>by
  rw[CM]at hx;rcases Qk.1 hx with rfl|hx
  .exact h
  .cases h with
   |mk h1 h2=>exact Rm ks (d+1) h2 x hx
theorem Rm:∀(ts:List Cp) (d:Nat),(∀t∈ts,WV t)->∀x∈CM.go ts d,WV x.1
 | [],_,_,x,hx=>by cases hx
 |t::ts,d,h,x,hx=>by
  rw[CM.go]at hx;rcases List.mem_append.1 hx with hx|hx
  .exact KV t d (h t (Qh ..)) x hx
  .exact Rm ts d (fun u hu=>h u (Qg _ hu)) x hx
end
theorem Pz {sB:St} {b:Code} {t:Cp} (hs:WV t)
 (g0:sB.b.g 0=some (.J [Cq Ok 2 cs,Cq Ok 2 fs] 24 false)) (g2:sB.b.g 2=some (.J [.bool false] 4 false)) (g3:sB.b.g 3=some (.J tabT 330 false))
 (g4:sB.b.g 4=some (.J [.int .i64 ((0:Nat):Int)] 3 false)) (g5:sB.b.g 5=some (.J (Cm t) 39 false)) (nB:sB.a=6)
 (hy:∀j (hj:j<(CM t 1).length) (st:St),8<=st.c->st.c<=st.a->U' cs fs (lpR nt T ps a b) (CM t 1) j st.a st.b->C_ (EK rP) 7 [.O (Cm (CM t 1)[j].1),.int .i64 ((CM t 1)[j].2:Nat)] st fun v s'=>st.a<=s'.a/\s'.c=st.c/\7∈s'.d/\(∀d∈s'.d,d∈st.d\/d<st.c)/\
  (∀d,8<=d->d<st.a->s'.b.g d=st.b.g d)/\(v=true->U' cs fs (lpR nt T ps a b) (CM t 1) (j+1) s'.a s'.b)/\(v=false->FmD cs fs (CM t 1) s'.a s'.b))
 (k:∀w s3,AllN (Zp sB nt T ps a b) (CM t 1) (U' cs fs (lpR nt T ps a b) (CM t 1)) (FmD cs fs (CM t 1)) w s3->R w s3):
 Wm (EK rP) 291 [.an (.yield (sB.a+1)) [] [],.J 5 0] (Zp sB nt T ps a b) R:=by
 have hn:(Zp sB nt T ps a b).a=8:=by show sB.a+2=8;rw[nB]
 rw[nB];refine Wm.mono (Uz (t:=t) (C:=U' cs fs (lpR nt T ps a b) (CM t 1)) (D:=FmD cs fs (CM t 1)) ⟨fun h hn hh=>h.g hn hh,fun h hn hh=>h.g hn hh,?_,?_,?_⟩ hs ?_ ?_ ?_) k
 .intro j hj st h1 h2 hC;rw[hn]at h1|-;exact hy j hj st h1 h2 hC
 .intro j n h hj hC;have:=hC.a j hj (Nat.lt_succ_self j);unfold gp at this;simp only[Qf,decide_eq_true_eq]at this;omega
 .omega
 .refine⟨?_,?_,?_,?_,?_,?_,fun i _ h=>absurd h (Nat.not_lt_zero _),?_⟩
  .exact(Fl (by omega)).trans g0
  .exact(Fl (by omega)).trans g2
  .exact(Fl (by omega)).trans g3
  .exact(Fl (by omega)).trans g4
  .rw[show 6=sB.a from nB.symm];exact yA
  .rw[show 7=sB.a+1 by omega];exact y9
  .omega
 .omega
 .exact(Fl (by omega)).trans g5
theorem Lz {fr:Fr} {l:Sl} {st:St} {r v:Bool} (hd:fr.defers=[{a:= .J 6,args:=[]}]) (h4:Am.d_ 4 l=some (.J 2 0)) (g2:st.b.g 2=some (.J [.bool r] 4 false)) (g6:st.b.g 6=some (.Z true)) (hb:st.c=0) (hl:st.d=[]) (hv:r=v):
 (Ex.Y= .Y\/Ex.Y= .J)/\∃Yk,ZE fr.defers st=some Yk/\Yk.d=[]/\Yk.c=0/\∃vs w ks,CK (EK rP) Yk l (Tryz.f202).results.toList=some vs/\C9 Yk 0 40 (Zi vs) []=some (w,ks)/\CD 0 40 w=true/\w= .bool v:=by
 subst hv;obtain⟨s',e1,e2,e3,e4,e5⟩:=EI (rs:=[6]) (s:=st) (List.nodup_cons.2 ⟨(fun h=>by cases h),List.nodup_nil⟩) (fun q hq=>by rw[Qp.1 hq];exact g6);refine⟨.inl U,s',by rw[hd];exact e1,(e4 hb).trans hl,e3.trans hb,[.bool r],.bool r,[],?_,U,U,U⟩;exact DB h4 xM u3 ((e5 2 (fun h=>by cases (Qp.1 h))).trans g2) U U
set_option maxHeartbeats 4000000 in
set_option maxRecDepth 20000 in
theorem Vk (cs fs:List Cw) (t:Cp) (hc:cs.length<=4000) (hf:fs.length<=4000) (hs:WV t):Co (EK rP) 202 [Wn cs fs,.O (Cm t)] S0 (.bool (Xt cs fs t)):=by
 have e0:=A4 t;rw[e0];unfold Wn;refine LS (fn:=Tryz.f202) (by kernel_rfl) U (by kernel_rfl) U U U U<|Eh U<|Es<|IG (fn:=Tryz.f237) (by kernel_rfl) (by kernel_rfl) U U U U U U U U U U U ?_;iterate 2 refine Eh U ?_
 refine Sq<|Ew U<|Sb<|A2<|Ew U<|Sq<|Tt U<|Sk<|Sq<|Sb ?_;iterate 2 refine Ew U ?_
 refine Tf U<|Sk<|Sr ?_;refine Lq (ka (a:=0) (b:=1) U (by omega)) U ?_;refine Lw U<|A2<|Ew U<|Sq<|Tt U<|Sk<|Sq<|Sb<|Ew U<|Es<|Lv 4 U<|Lh U U (kX (m:=1) U (by omega) U)<|Ls 1 U<|Lh U U (Bz (neg:=false) U (by kernel_rfl) U U U)<|Lw U<|Tf U ?_;refine Sk<|Sr ?_;refine Lq (ka (a:=1) (b:=1) U (by omega)) U ?_;refine Lw U<|A2<|Ew U<|Sq<|Tt U<|Sk<|Sq<|Sb<|Ew U<|Es<|Lv 4 U<|Lh U U (kX (m:=2) U (by omega) U)<|Ls 1 U<|Lh U U (Bz (neg:=false) U (by kernel_rfl) U U U)<|Lw U<|Tf U ?_;refine Sk<|Sr ?_;refine Lq (ka (a:=2) (b:=1) U (by omega)) U ?_;refine Lw U<|A2<|Ew U<|Sq<|Tt U<|Sk<|Sq<|Sb<|Ew U<|Es<|Lv 4 U<|Lh U U (kX (m:=3) U (by omega) U)<|Ls 1 U<|Lh U U (Bz (neg:=false) U (by kernel_rfl) U U U)<|Lw U<|Tf U ?_;refine Sk<|Sr ?_;refine Lq (ka (a:=3) (b:=1) U (by omega)) U ?_
 refine Lw U<|A2<|Ew U<|Sq<|Tt U<|Sk<|Sq<|Sb<|Ew U<|Es<|Lv 4 U<|Lh U U (kX (m:=4) U (by omega) U)<|Ls 1 U<|Lh U U (Bz (neg:=false) U (by kernel_rfl) U U U)<|Lw U<|Tf U ?_;refine Sk<|Sr ?_;refine Lq (ka (a:=4) (b:=1) U (by omega)) U ?_;refine Lw U<|A2<|Ew U<|Sq<|Tt U<|Sk<|Sq<|Sb<|Ew U<|Es<|Lv 4 U<|Lh U U (kX (m:=5) U (by omega) U)<|Ls 1 U<|Lh U U (Bz (neg:=false) U (by kernel_rfl) U U U)<|Lw U<|Tf U ?_;refine Sk<|Sr ?_;refine Lq (ka (a:=5) (b:=1) U (by omega)) U ?_;refine Lw U<|A2<|Ew U<|Sq<|Tt U<|Sk<|Sq<|Sb<|Ew U<|Es<|Lv 4 U<|Lh U U (kX (m:=6) U (by omega) U)<|Ls 1 U<|Lh U U (Bz (neg:=false) U (by kernel_rfl) U U U)<|Lw U<|Tt U ?_;refine Sr<|qm U<|Lq (kX (m:=6) U (by omega) U) U<|Lx U<|Sr ?_;refine Lq (ka (a:=6) (b:=1) U (by omega)) U ?_
 refine Lw U<|A2<|Ew U<|Sq<|Tt U<|Sk<|Sq<|Sb<|Ew U<|Es<|Lv 4 U<|Lh U U (kX (m:=7) U (by omega) U)<|Ls 1 U<|Lh U U (Bz (neg:=false) U (by kernel_rfl) U U U)<|Lw U<|Tt U ?_;refine Sr<|qm U<|Lq (kX (m:=7) U (by omega) U) U<|Lx U<|Sr ?_;refine Lq (ka (a:=7) (b:=1) U (by omega)) U ?_;refine Lw U<|A2<|Ew U<|Sq<|Tt U<|Sk<|Sq<|Sb<|Ew U<|Es<|Lv 4 U<|Lh U U (kX (m:=8) U (by omega) U)<|Ls 1 U<|Lh U U (Bz (neg:=false) U (by kernel_rfl) U U U)<|Lw U<|Tf U ?_;refine Sk<|Sr ?_;refine Lq (ka (a:=8) (b:=1) U (by omega)) U ?_;refine Lw U<|A2<|Ew U<|Sq<|Tt U<|Sk<|Sq<|Sb<|Ew U<|Es<|Lv 4 U<|Lh U U (kX (m:=9) U (by omega) U)<|Ls 1 U<|Lh U U (Bz (neg:=false) U (by kernel_rfl) U U U)<|Lw U<|Tt U ?_;refine Sr<|qm U<|Lq (kX (m:=9) U (by omega) U) U<|Lx U<|Sr ?_;refine Lq (ka (a:=9) (b:=1) U (by omega)) U ?_
 refine Lw U<|A2<|Ew U<|Sq<|Tt U<|Sk<|Sq<|Sb<|Ew U<|Es<|Lv 4 U<|Lh U U (kX (m:=10) U (by omega) U)<|Ls 1 U<|Lh U U (Bz (neg:=false) U (by kernel_rfl) U U U)<|Lw U<|Tt U ?_;refine Sr<|qm U<|Lq (kX (m:=10) U (by omega) U) U<|Lx U<|Sr ?_;refine Lq (ka (a:=10) (b:=1) U (by omega)) U ?_;refine Lw U<|A2<|Ew U<|Sq<|Tt U<|Sk<|Sq<|Sb<|Ew U<|Es<|Lv 4 U<|Lh U U (kX (m:=11) U (by omega) U)<|Ls 1 U<|Lh U U (Bz (neg:=false) U (by kernel_rfl) U U U)<|Lw U<|Tt U ?_;refine Sr<|qm U<|Lq (kX (m:=11) U (by omega) U) U<|Lx U<|Sr ?_;refine Lq (ka (a:=11) (b:=1) U (by omega)) U ?_;refine Lw U<|A2<|Ew U<|Sq<|Tt U<|Sk<|Sq<|Sb<|Ew U<|Es<|Lv 4 U<|Lh U U (kX (m:=12) U (by omega) U)<|Ls 1 U<|Lh U U (Bz (neg:=false) U (by kernel_rfl) U U U)<|Lw U<|Tt U ?_;refine Sr<|qm U<|Lq (kX (m:=12) U (by omega) U) U<|Lx U<|Sr ?_;refine Lq (ka (a:=12) (b:=1) U (by omega)) U ?_
 refine Lw U<|A2<|Ew U<|Sq<|Tt U<|Sk<|Sq<|Sb<|Ew U<|Es<|Lv 4 U<|Lh U U (kX (m:=13) U (by omega) U)<|Ls 1 U<|Lh U U (Bz (neg:=false) U (by kernel_rfl) U U U)<|Lw U<|Tt U ?_;refine Sr<|qm U<|Lq (kX (m:=13) U (by omega) U) U<|Lx U<|Sr ?_;refine Lq (ka (a:=13) (b:=1) U (by omega)) U ?_;refine Lw U<|A2<|Ew U<|Sq<|Tt U<|Sk<|Sq<|Sb<|Ew U<|Es<|Lv 4 U<|Lh U U (kX (m:=14) U (by omega) U)<|Ls 1 U<|Lh U U (Bz (neg:=false) U (by kernel_rfl) U U U)<|Lw U<|Tt U ?_;refine Sr<|qm U<|Lq (kX (m:=14) U (by omega) U) U<|Lx U<|Sr ?_;refine Lq (ka (a:=14) (b:=1) U (by omega)) U ?_;refine Lw U<|A2<|Ew U<|Sq<|Tt U<|Sk<|Sq<|Sb<|Ew U<|Es<|Lv 4 U<|Lh U U (kX (m:=15) U (by omega) U)<|Ls 1 U<|Lh U U (Bz (neg:=false) U (by kernel_rfl) U U U)<|Lw U<|Tt U ?_;refine Sr<|qm U<|Lq (kX (m:=15) U (by omega) U) U<|Lx U<|Sr ?_;refine Lq (ka (a:=15) (b:=1) U (by omega)) U ?_;refine Lw U<|A2<|Ew U<|Sq<|Tf U<|Sx<|A0 U<|Eh U ?_
 refine Se (AC (cH.same U (TW U ag_330 sz_330 U (Qc U) U) U U U U ?_));refine Lx U<|Sq<|Es<|Ls 1 U<|IG (fn:=Tryz.f238) (by kernel_rfl) (by kernel_rfl) U U U U U U U U U U U<|Eh U<|Ew U ?_;refine Se (AC (cH.new U (Ac U U) U U U U ?_));refine Ld<|Sb ?_;refine Az fun sB YP=>?_;have g0:sB.b.g 0=some (.J [Cq Ok 2 cs,Cq Ok 2 fs] 24 false):=by rw[YP];exact AM 0
 have g2:sB.b.g 2=some (.J [.bool false] 4 false):=by rw[YP];exact AM 2
 have g3:sB.b.g 3=some (.J tabT 330 false):=by rw[YP];exact AM 3
 have g4:sB.b.g 4=some (.J [.int .i64 ((0:Nat):Int)] 3 false):=by rw[YP];exact AM 4
 have g5:sB.b.g 5=some (.J (Cm t) 39 false):=by rw[YP,e0];exact AM 5
 have nB:sB.a=6:=by rw[YP];rfl
 have bB:sB.c=0:=by rw[YP];rfl
 have lB:sB.d=[]:=by rw[YP];rfl
 clear YP;refine LQ U U (by kernel_rfl) fun T lY=>?_;have hT:k8 [(6,.J 4 0),(5,.J 3 0),(4,.J 2 0),(2,.J 0 0)] T:=lY.sub (Ab (by repeat' constructor));clear lY;refine Pz hs g0 g2 g3 g4 g5 nB ?_ ?_
 .intro j hj st eJ kD hC;rcases hx:(CM t 1)[j]with⟨⟨o,n,ks⟩,dep⟩
  have e1:Cm (.mk o n ks)=[.int .i64 o,.int .i64 n,CI ks]:=AN ..;dsimp only;rw[e1];refine⟨_,_,_,hC.b,U,(hT.put 12 _).put 13 _,?_⟩;obtain⟨a1,a2,a3,a4,a5,a6,a7⟩:=AU (st:=st) (z:=[.int .i64 0,.int .i64 0,.Ca]) (cs:=[.int .i64 o,.int .i64 n,CI ks]) (T:=39);refine Es<|Lo (kz U) U<|Ln (kw U a1 U) U<|Ld<|Sr<|Lw U ?_;refine⟨U,_,(a4 7 (by omega)).trans hC.b,U,?_⟩;refine Az fun sX hsX=>?_;have x7:7<((st.g (.J [.int .i64 0,.int .i64 0,.Ca] 39 false)).z st.a (some (.J [.int .i64 o,.int .i64 n,CI ks] 39 false))).c:=by rw[a5];omega
  have xo:∀d,d≠7->sX.b.g d=((st.g (.J [.int .i64 0,.int .i64 0,.Ca] 39 false)).z st.a (some (.J [.int .i64 o,.int .i64 n,CI ks] 39 false))).b.g d:=fun d hd=>by rw[hsX];exact Ah.trans (if_neg hd)
  have xl:=(congrArg (fun s=>s.b.g 7) hsX).trans (Ah.trans (if_pos rfl));have xm:7∈sX.d:=by rw[hsX];exact AL x7
  have xg:∀d∈sX.d,d∈st.d\/d<st.c:=fun d hd=>by
   rw[hsX]at hd;rcases BP hd with h|⟨_,h⟩
   .exact .inl (by rw[<-a6 kD];exact h)
   .exact .inr (by rw[<-a5];exact h)
  have nX:sX.a=st.a+1:=by rw[hsX];exact a7
  have bX:sX.c=st.c:=by rw[hsX];exact a5
  have q0:=(xo 0 (by decide)).trans ((a4 0 (by omega)).trans hC.g0);have q2:=(xo 2 (by decide)).trans ((a4 2 (by omega)).trans hC.c);have q3:=(xo 3 (by decide)).trans ((a4 3 (by omega)).trans hC.g3);have q4:=(xo 4 (by decide)).trans ((a4 4 (by omega)).trans hC.g4);have q6:=(xo 6 (by decide)).trans ((a4 6 (by omega)).trans hC.d);have qt:=(xo st.a (by omega)).trans a2;have xf:∀d,8<=d->d<st.a->sX.b.g d=st.b.g d:=fun d h1 h2=>(xo d (by omega)).trans (a4 d h2);clear hsX xo x7 a1 a2 a3 a4 a5 a6 a7;have hj40:j<=40:=by
   cases j with
   |zero=>exact Qo _
   |succ j=>
    have:=hC.a j (by omega) (Nat.lt_succ_self j);unfold gp at this;simp only[Qf,decide_eq_true_eq]at this;omega
  refine Sb<|Es<|Lo (kl U q4 U) U ?_;refine Lq (ka (b:=1) U (by omega)) U ?_;refine Ln (kw U q4 U) U<|Ld ?_;refine Az fun sY hsY=>?_;have yo:∀d,d≠4->sY.b.g d=sX.b.g d:=fun d hd=>by rw[hsY];exact Ah.trans (if_neg hd)
  have r4:sY.b.g 4=some (.J [.int .i64 ((j+1:Nat):Int)] 3 false):=by rw[hsY];exact Ah.trans (if_pos rfl)
  have ym:7∈sY.d:=by rw[hsY];exact AZ xm
  have yg:∀d∈sY.d,d∈st.d\/d<st.c:=fun d hd=>by
   rw[hsY]at hd;rcases BP hd with h|⟨_,h⟩
   .exact xg d h
   .exact .inr (by rw[<-bX];exact h)
  have nY:sY.a=st.a+1:=by rw[hsY];exact nX
  have bY:sY.c=st.c:=by rw[hsY];exact bX
  have r0:=(yo 0 (by decide)).trans q0;have r2:=(yo 2 (by decide)).trans q2;have r3:=(yo 3 (by decide)).trans q3;have r6:=(yo 6 (by decide)).trans q6;have rt:=(yo st.a (by omega)).trans qt;have rl:=(yo 7 (by decide)).trans xl;have rf:∀d,8<=d->d<st.a->sY.b.g d=st.b.g d:=fun d h1 h2=>(yo d (by omega)).trans (xf d h1 h2);clear hsY yo xl xm xg nX bX q0 q2 q3 q4 q6 qt xf;refine B0 (DG (fun b=>([(38,.bool b),(4,.J 2 0)],sY)) (fun b=>b= !gp cs fs j (.mk o n ks,dep)) ?_ ?_)
  .have hlen:=Ek (l:=ks);have hk:ks.length<=4000:=by
    have hm:=KV t 1 hs _ (Ql hj);rw[hx]at hm;cases hm with
    |mk h _=>exact h
   focus
    refine AK (by kernel_rfl)<|Nm U r4 U (.inl U) U<|Nv 2 U ?_;refine Dd U (fun h6=>?_) (fun h6=>?_);refine Nw U ?_;rotate_left;refine Nv 4 U ?_;refine Dd U (fun h7=>?_) (fun h7=>?_);refine Nw U ?_;rotate_left;refine Nv 1 U<|Nm U rt U (gG U) U ?_;refine Na (kC U (E7)) (gG U) U<|Nv 3 U ?_;refine Db U (fun g8=>?_) (fun g8=>?_);have h8:=HF g8;refine Nw U ?_;rotate_left;have h8:=HG g8;refine Nv 1 U<|Nm U rt U (gG U) U ?_;rotate_left
   .exact⟨U,true,by unfold gp;rw[decide_eq_false (by omega:¬j+1<=40)];rfl,U,Ab (by repeat' constructor)⟩
   .exact⟨U,true,by unfold gp;rw[decide_eq_false (show¬((Cp.mk o n ks,dep):Cp×Nat).2<=12 by dsimp only;omega),Bool.and_false];rfl,U,Ab (by repeat' constructor)⟩
   .exact⟨U,true,by unfold gp rq;rw[show X1 ((Cp.mk o n ks,dep):Cp×Nat).1.op 1 15=false from h8,Bool.false_and,Bool.and_false];rfl,U,Ab (by repeat' constructor)⟩
   have h9:=VW.1 h8;have WO:gp cs fs j (.mk o n ks,dep)=rq cs fs o n (ks.length:Nat):=by
    unfold gp;rw[decide_eq_true (by omega:j+1<=40),decide_eq_true (show((Cp.mk o n ks,dep):Cp×Nat).2<=12 by dsimp only;omega)];rfl
   rw[WO];have mw:=PI (cs:=cs) (fs:=fs) (o:=o) (n:=n) (ks:=ks) hc hf hk;rw[AN]at mw;have oK:=PH (cs:=cs) (fs:=fs) (o:=o) (n:=n) (ks:=ks) hc hf hk;rw[AN]at oK;have k_con:=PG (cs:=cs) (fs:=fs) (o:=o) (n:=n) (ks:=ks) hc hf hk;rw[AN]at k_con;have k_fun:=PF (cs:=cs) (fs:=fs) (o:=o) (n:=n) (ks:=ks) hc hf hk;rw[AN]at k_fun;have yB:=PE (cs:=cs) (fs:=fs) (o:=o) (n:=n) (ks:=ks) hc hf hk;rw[AN]at yB;have cN:=Bw (cs:=cs) (fs:=fs) (o:=o) (n:=n) (ks:=ks) hc hf hk;rw[AN]at cN;have k_let:=PD (cs:=cs) (fs:=fs) (o:=o) (n:=n) (ks:=ks) hc hf hk;rw[AN]at k_let;obtain rfl|rfl|rfl|rfl|rfl|rfl|rfl|rfl|rfl|rfl|rfl|rfl|rfl|rfl|rfl:o=1\/o=2\/o=3\/o=4\/o=5\/o=6\/o=7\/o=8\/o=9\/o=10\/o=11\/o=12\/o=13\/o=14\/o=15:=by omega
   .have PI:=mw;refine Nz (kX (m:=1) U (by omega) U) U U<|Nm U r3 U (gG U) U<|NM U r0 U (gG U) U<|Nv 1 U<|NM U rt U (gG U) U ?_;refine Na (kV U (PI)) (gG U) U<|Nw U ?_;exact⟨U,_,U,U,Ab (by repeat' constructor)⟩
   .have PH:=oK;refine Nz (kX (m:=2) U (by omega) U) U U<|Nm U r3 U (gG U) U<|NM U r0 U (gG U) U<|Nv 1 U<|NM U rt U (gG U) U ?_;refine Na (kV U (PH)) (gG U) U<|Nw U ?_;exact⟨U,_,U,U,Ab (by repeat' constructor)⟩
   .have PG:=k_con;refine Nz (kX (m:=3) U (by omega) U) U U<|Nm U r3 U (gG U) U<|NM U r0 U (gG U) U<|Nv 1 U<|NM U rt U (gG U) U ?_;refine Na (kV U (PG)) (gG U) U<|Nw U ?_;exact⟨U,_,U,U,Ab (by repeat' constructor)⟩
   .have PF:=k_fun;refine Nz (kX (m:=4) U (by omega) U) U U<|Nm U r3 U (gG U) U<|NM U r0 U (gG U) U<|Nv 1 U<|NM U rt U (gG U) U ?_;refine Na (kV U (PF)) (gG U) U<|Nw U ?_;exact⟨U,_,U,U,Ab (by repeat' constructor)⟩
   .have PE:=yB;refine Nz (kX (m:=5) U (by omega) U) U U<|Nm U r3 U (gG U) U<|NM U r0 U (gG U) U<|Nv 1 U<|NM U rt U (gG U) U ?_;refine Na (kV U (PE)) (gG U) U<|Nw U ?_;exact⟨U,_,U,U,Ab (by repeat' constructor)⟩
   .have Bw:=cN;refine Nz (kX (m:=6) U (by omega) U) U U<|Nm U r3 U (gG U) U<|NM U r0 U (gG U) U<|Nv 1 U<|NM U rt U (gG U) U ?_;refine Na (kV U (Bw)) (gG U) U<|Nw U ?_;exact⟨U,_,U,U,Ab (by repeat' constructor)⟩
   .have Bw:=cN;refine Nz (kX (m:=7) U (by omega) U) U U<|Nm U r3 U (gG U) U<|NM U r0 U (gG U) U<|Nv 1 U<|NM U rt U (gG U) U ?_;refine Na (kV U (Bw)) (gG U) U<|Nw U ?_;exact⟨U,_,U,U,Ab (by repeat' constructor)⟩
   .have PD:=k_let;refine Nz (kX (m:=8) U (by omega) U) U U<|Nm U r3 U (gG U) U<|NM U r0 U (gG U) U<|Nv 1 U<|NM U rt U (gG U) U ?_;refine Na (kV U (PD)) (gG U) U<|Nw U ?_;exact⟨U,_,U,U,Ab (by repeat' constructor)⟩
   .have Bw:=cN;refine Nz (kX (m:=9) U (by omega) U) U U<|Nm U r3 U (gG U) U<|NM U r0 U (gG U) U<|Nv 1 U<|NM U rt U (gG U) U ?_;refine Na (kV U (Bw)) (gG U) U<|Nw U ?_;exact⟨U,_,U,U,Ab (by repeat' constructor)⟩
   .have Bw:=cN;refine Nz (kX (m:=10) U (by omega) U) U U<|Nm U r3 U (gG U) U<|NM U r0 U (gG U) U<|Nv 1 U<|NM U rt U (gG U) U ?_;refine Na (kV U (Bw)) (gG U) U<|Nw U ?_;exact⟨U,_,U,U,Ab (by repeat' constructor)⟩
   .have Bw:=cN;refine Nz (kX (m:=11) U (by omega) U) U U<|Nm U r3 U (gG U) U<|NM U r0 U (gG U) U<|Nv 1 U<|NM U rt U (gG U) U ?_;refine Na (kV U (Bw)) (gG U) U<|Nw U ?_;exact⟨U,_,U,U,Ab (by repeat' constructor)⟩
   .have Bw:=cN;refine Nz (kX (m:=12) U (by omega) U) U U<|Nm U r3 U (gG U) U<|NM U r0 U (gG U) U<|Nv 1 U<|NM U rt U (gG U) U ?_;refine Na (kV U (Bw)) (gG U) U<|Nw U ?_;exact⟨U,_,U,U,Ab (by repeat' constructor)⟩
   .have Bw:=cN;refine Nz (kX (m:=13) U (by omega) U) U U<|Nm U r3 U (gG U) U<|NM U r0 U (gG U) U<|Nv 1 U<|NM U rt U (gG U) U ?_;refine Na (kV U (Bw)) (gG U) U<|Nw U ?_;exact⟨U,_,U,U,Ab (by repeat' constructor)⟩
   .have Bw:=cN;refine Nz (kX (m:=14) U (by omega) U) U U<|Nm U r3 U (gG U) U<|NM U r0 U (gG U) U<|Nv 1 U<|NM U rt U (gG U) U ?_;refine Na (kV U (Bw)) (gG U) U<|Nw U ?_;exact⟨U,_,U,U,Ab (by repeat' constructor)⟩
   .have Bw:=cN;refine Nz (kX (m:=15) U (by omega) U) U U<|Nm U r3 U (gG U) U<|NM U r0 U (gG U) U<|Nv 1 U<|NM U rt U (gG U) U ?_;refine Na (kV U (Bw)) (gG U) U<|Nw U ?_;exact⟨U,_,U,U,Ab (by repeat' constructor)⟩
  .rintro _ rfl;cases hb:gp cs fs j (.mk o n ks,dep)with
   |true=>
    refine Tf U<|Sk ?_;refine⟨U,_,rl,?_⟩;refine⟨by show st.a<=sY.a;omega,bY,AZ ym,?_,?_,fun _=>?_,fun h=>by cases h⟩
    .intro d hd;rcases BP hd with h|⟨_,h⟩
     .exact yg d h
     .exact .inr (by rw[<-bY];exact h)
    .intro d h1 h2;exact(Ah.trans (if_neg (by omega))).trans (rf d h1 h2)
    .refine⟨(Ah.trans (if_neg (by decide))).trans r0,(Ah.trans (if_neg (by decide))).trans r2,(Ah.trans (if_neg (by decide))).trans r3,(Ah.trans (if_neg (by decide))).trans r4,(Ah.trans (if_neg (by decide))).trans r6,Ah.trans (if_pos U),fun i hi C5=>?_,by show 8<=sY.a;omega⟩;rcases Nat.lt_or_ge i j with h1|h1
     .exact hC.a i hi h1
     .obtain rfl:i=j:=by omega
      rw[hx];exact hb
   |false=>
    refine Tt U<|Es<|Ln (kw U r2 U) U<|Ld<|Se ?_;refine⟨U,_,(Ah.trans (if_neg (by decide))).trans rl,?_⟩;refine⟨by show st.a<=sY.a;omega,bY,AZ (AZ ym),?_,?_,(fun h=>by cases h),fun _=>?_⟩
    .intro d hd;rcases BP hd with h|⟨_,h⟩
     .rcases BP h with h|⟨_,h⟩
      .exact yg d h
      .exact .inr (by rw[<-bY];exact h)
     .exact .inr (by rw[<-bY];exact h)
    .intro d h1 h2;exact(Ah.trans (if_neg (by omega))).trans ((Ah.trans (if_neg (by omega))).trans (rf d h1 h2))
    .exact⟨(Ah.trans (if_neg (by decide))).trans (Ah.trans (if_pos U)),(Ah.trans (if_neg (by decide))).trans ((Ah.trans (if_neg (by decide))).trans r6),⟨_,Ah.trans (if_pos U),U,U⟩,TJ hj (by rw[Nat.zero_add,hx];exact hb),by show 8<=sY.a;omega⟩
 .rintro w s3 ⟨e1,e2,e3,e4⟩;have bR:s3.c=0:=e1.trans bB;have lR:s3.d=[]:=List.eq_nil_iff_forall_not_mem.2 fun d hd=>by
   rcases e3 d hd with h|h
   .have h:d∈sB.d:=h;rw[lB]at h;cases h
   .have h:d<sB.c:=h;omega
  clear e1 e2 e3;rw[nB];rcases e4 with hC|hD
  .refine⟨_,hC.b,(fun h=>by cases h),?_⟩;show Cu (EK rP) _ _ _ _ _;refine Az fun sZ hsZ=>?_;have z2:sZ.b.g 2=some (.J [.bool false] 4 false):=by rw[hsZ];exact(Ah.trans (if_neg (by decide))).trans hC.c
   have z6:sZ.b.g 6=some (.Z true):=by rw[hsZ];exact(Ah.trans (if_neg (by decide))).trans hC.d
   have bZ:sZ.c=0:=by rw[hsZ];exact bR
   have lZ:sZ.d=[]:=by rw[hsZ];exact(Bv bR).trans lR
   clear hsZ;refine Es<|Ln (kw U z2 U) U<|Ld<|Se<|Lz U U (Ah.trans (if_pos U)) ((Ah.trans (if_neg (by decide))).trans z6) bZ ((Bv bZ).trans lZ) ?_;rw[<-No];exact(QM fun i hi=>by rw[Nat.zero_add];exact hC.a i hi hi).symm
  .obtain⟨lp,l1,l2,l3⟩:=hD.lp;refine⟨lp,l1,(by rw[l2];exact fun h=>by cases h),?_⟩;rw[l3]
   skip
   refine Lz U U ((Ah.trans (if_neg (by decide))).trans hD.g2) ((Ah.trans (if_neg (by decide))).trans hD.df) bR ((Bv bR).trans lR) ?_;rw[<-No];exact hD.no.symm
end Go.Proofs.YtpihdbhocgcbpaaGreatDoor
open Go Am
namespace Go.Proofs.YtpihdbhocgcbpaaGreatDoor
noncomputable def KF1:=WA rP 202 (fun p:zN=>[Wn p.1.1.1 p.1.1.2,.O (Cm p.1.2)]) (fun p=> .bool (Xt p.1.1.1 p.1.1.2 p.1.2))
variable {t:Cp} {cs fs:List Cw}
theorem JD (hc:cs.length<=4000) (hf:fs.length<=4000) (hs:WV t):KF1 202 [Wn cs fs,.O (Cm t)]=some (.bool (Xt cs fs t)):=
 Ak (f:=202) (enc:=fun p:zN=>[Wn p.1.1.1 p.1.1.2,.O (Cm p.1.2)]) (res:=fun p=> .bool (Xt p.1.1.1 p.1.1.2 p.1.2)) (by
  rintro⟨⟨⟨a,b⟩,c⟩,_⟩ ⟨⟨⟨a',b'⟩,c'⟩,_⟩ h;simp only[List.cons.injEq,and_true]at h;obtain⟨rfl,rfl⟩:=GD h.1;obtain rfl:=BJ _ _ (AV.O.inj h.2);rfl) ⟨((cs,fs),t),hc,hf,hs⟩
theorem allF1 (h:Wh Tryz.prog 10 [] (.bool true)):C6 Tryz.prog KF1:=
 Aw Au (tall7 h) (fun p:zN=>Vk p.1.1.1 p.1.1.2 p.1.2 p.2.1 p.2.2.1 p.2.2.2) Nl (fun _=>rfl)
theorem T5 (cs fs:List Cw) (t:Cp) (hc:cs.length<=4000) (hf:fs.length<=4000) (hs:WV t) (sk:∀p∈cs,p.1.length<=4000) (dx:∀p∈fs,p.1.length<=4000) (vd:Zy cs fs=true):Co (EK KF1) 124 [Wn cs fs,.O (Cm t)] S0 (.int .i64 (if Xt cs fs t then 0 else 2)):=by
 have e0:=A4 t;have Rj:KF1 36 [.O [Cq Ok 2 cs,Cq Ok 2 fs]]=some (.int .i64 0):=by
  have:=Rj sk dx;rw[vd]at this;exact this
 have JD:=JD hc hf hs;rw[e0]at JD|-;unfold Wn at JD|-;refine As U ?_;focus
  refine Eh U<|Sq<|Es<|Ls 2 U<|Lo (Bo 3 U nr Ks qe U U U U) U<|IG (fn:=Tryz.f161) (by kernel_rfl) (by kernel_rfl) U U U U U U U U U U U<|Eh U<|Es<|Ls 1 U ?_;refine Lo (kc U (Rj)) U<|Lv 4 U<|Fa U U U U U<|IG (fn:=Tryz.f200) (by kernel_rfl) (by kernel_rfl) U U U U U U U U U U U<|Ew U<|Sq<|Ew U<|Sb<|A2<|Ew U<|Sq<|Tt U<|Sk<|Sq<|Sb<|Es ?_;refine Lq (kM (k:=0) U (by omega)) U ?_;refine Lx U<|Es<|Ls 2 U<|Q0 (fn:=Tryz.f201) (by kernel_rfl) (by kernel_rfl) U U U U U U U U U U U U U<|Eh U<|Es<|Ls 2 U ?_;refine Lo (kc U (JD)) U<|Lw U ?_;refine Se (AC (cH.same U (Ac U U) U U U U ?_));refine Lw U ?_;refine Cn U (fun h1=>?_) (fun h1=>?_);refine Ew U ?_;refine Se (AC (cH.same U (Ac U U) U U U U ?_));refine Lw U ?_;refine Se (AC (cH.same U (Ac U U) U U U U ?_));refine Lw U<|Tt U<|Ew U ?_;refine Se (Er U ?_);rotate_left;refine Sk<|Sr ?_;refine Lq (ka (a:=0) (b:=1) U (by omega)) U ?_
  refine Lw U<|A2<|Ew U<|Sq<|Tf U<|Sx<|A0 U<|Ew U ?_;refine Se (AC (cH.same U (Ac U U) U U U U ?_));refine Lw U ?_;refine Se (AC (cH.same U (Ac U U) U U U U ?_));refine Lw U<|Tf U<|Sk<|Ew U ?_;refine Se (Er U ?_);rotate_left
 .rw[h1];rfl
 .rw[h1];rfl
abbrev CkT:= {p:(List Cw×List Cw)×Cp//p.1.1.length<=4000/\p.1.2.length<=4000/\WV p.2/\(∀q∈p.1.1,q.1.length<=4000)/\(∀q∈p.1.2,q.1.length<=4000)/\Zy p.1.1 p.1.2=true}
noncomputable def KF2:=WA KF1 124 (fun p:CkT=>[Wn p.1.1.1 p.1.1.2,.O (Cm p.1.2)]) (fun p=> .int .i64 (if Xt p.1.1.1 p.1.1.2 p.1.2 then 0 else 2))
theorem JE (hc:cs.length<=4000) (hf:fs.length<=4000) (hs:WV t) (sk:∀p∈cs,p.1.length<=4000) (dx:∀p∈fs,p.1.length<=4000) (vd:Zy cs fs=true):KF2 124 [Wn cs fs,.O (Cm t)]=some (.int .i64 (if Xt cs fs t then 0 else 2)):=
 Ak (f:=124) (enc:=fun p:CkT=>[Wn p.1.1.1 p.1.1.2,.O (Cm p.1.2)]) (res:=fun p=> .int .i64 (if Xt p.1.1.1 p.1.1.2 p.1.2 then 0 else 2)) (by
  rintro⟨⟨⟨a,b⟩,c⟩,_⟩ ⟨⟨⟨a',b'⟩,c'⟩,_⟩ h;simp only[List.cons.injEq,and_true]at h;obtain⟨rfl,rfl⟩:=GD h.1;obtain rfl:=BJ _ _ (AV.O.inj h.2);rfl) ⟨((cs,fs),t),hc,hf,hs,sk,dx,vd⟩
theorem allF2 (h:Wh Tryz.prog 10 [] (.bool true)):C6 Tryz.prog KF2:=
 Aw Au (allF1 h) (fun p:CkT=>T5 p.1.1.1 p.1.1.2 p.1.2 p.2.1 p.2.2.1 p.2.2.2.1 p.2.2.2.2.1 p.2.2.2.2.2.1 p.2.2.2.2.2.2) (fun p=>by
  show(Cr 40 (Wn _ _)&&(Cr 40 (.O (Cm _))&&true))=true;rw[DH];rfl) (fun _=>rfl)
end Go.Proofs.YtpihdbhocgcbpaaGreatDoor
