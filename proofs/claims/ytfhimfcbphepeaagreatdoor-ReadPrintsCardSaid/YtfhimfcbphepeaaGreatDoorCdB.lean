/- Printing, part 2. -/
import Derived.Test.YtfhimfcbphepeaaGreatDoorCdA
set_option linter.unusedSectionVars false
set_option linter.unusedVariables false
set_option linter.unusedSimpArgs false
open Go Am
namespace Am
end Am
namespace Go.Proofs.YtfhimfcbphepeaaGreatDoor.Ty
theorem Mx:∀ {a b:List Cc},a.flatMap Cf=b.flatMap Cf->(∀t∈a,∀u,Cf t=Cf u->t=u)->a=b
 | [],[],_,_=>rfl
 | [],u::b,h,_=>by rw[List.flatMap_cons,Ak u]at h;cases h
 |t::a,[],h,_=>by rw[List.flatMap_cons,Ak t]at h;cases h
 |t::a,u::b,h,ih=>by
  rw[List.flatMap_cons,List.flatMap_cons]at h;obtain⟨h1,h2⟩:=List.append_inj h (by rw[Kw,Kw]);rw[ih t (Qh ..) u h1,Mx h2 fun x hx=>ih x (Qg _ hx)]
theorem My:∀(n:Nat) (t u:Cc),CL t<=n->Cf t=Cf u->t=u
 |0,t,u,h,_=>by rw[Fy]at h;omega
 |n+1,t,u,h,e=>by
  rw[Fy]at h;rw[Ak,Ak]at e;obtain⟨o,m,ks⟩:=t;obtain⟨o',m',jD⟩:=u;simp only[List.cons.injEq,AV.int.injEq,true_and,and_true]at e;obtain⟨e1,e2,e3⟩:=e;have e1:o=o':=e1;have e2:m=m':=e2;have e3:Cs ks=Cs jD:=e3;have hk:∀t∈ks,∀u,Cf t=Cf u->t=u:=fun t ht u hu=>My n t u (by have:=Bg ht;have:Yl ks+1<=n+1:=h;omega) hu;have:ks=jD:=Mx (AV.Ck.inj e3).1 hk;rw[e1,e2,this]
theorem AO (t u:Cc) (h:Cf t=Cf u):t=u:=My _ t u (Qj _) h
theorem BC {l:List Cc}:jb (Cs l)=some (.int .i64 (l.length:Nat)):=by cases l<;>rfl
theorem BD {l:List Cc} {i:Nat} (h:i<l.length):Yr (2+1) i (Cs l)=some (.Zu (Cf l[i]++(l.drop (i+1)).flatMap Cf)):=by
 cases l with
 |nil=>cases h
 |cons t ts=>exact A6 Kw h
theorem Js:∀ {ts:List Cc} {l d:Int},¬0<=l->Z3 ts l d=l
 | [],_,_,_=>rfl
 |_::_,_,_,h=>by unfold Z3;rw[if_neg h]
theorem weigh_lt (t:Cc) (l d:Int) (h:0<=l):YF t l d<=l-1:=by
 obtain⟨o,n,ks⟩:=t;unfold YF;split
 .omega
 .exact(Jt ks (l-1) (d-1) (by omega)).2
abbrev WgA:= {p:Cc×Int×Int//(-1<=p.2.1/\p.2.1<=1000)/\0<=p.2.2/\p.2.2<=1000}
def oE (p:WgA):List AV:=[.agg (Cf p.1.1),.int .i64 p.1.2.1,.int .i64 p.1.2.2]
def wg (p:WgA):AV:= .int .i64 (YF p.1.1 p.1.2.1 p.1.2.2)
theorem Ku (x y:WgA) (h:oE x=oE y):x=y:=by
 obtain⟨⟨a,b,c⟩,_⟩:=x;obtain⟨⟨a',b',c'⟩,_⟩:=y;simp only[oE,List.cons.injEq,AV.int.injEq,AV.agg.injEq,true_and,and_true]at h;obtain⟨h1,rfl,rfl⟩:=h;obtain rfl:=AO _ _ h1;rfl
theorem Dt (t:Cc):0<CL t:=by rw[Fy];omega
theorem AU (t:Cc):Cm 40 (.agg (Cf t))=true:=by
 rw[Ak];cases t.u<;>rfl
theorem weigh_to (d:Nat) (t:Cc) (l m:Int) (h:CL t=d+1) (hl: -1<=l/\l<=1000) (hm:0<=m/\m<=1000) (hx:A' K6 53 oE wg (fun p=>CL p.1.1) d 53 [.agg (Cf t),.int .i64 l,.int .i64 m]=none):
 Cj (EK (A' K6 53 oE wg (fun p=>CL p.1.1) d)) 53 [.agg (Cf t),.int .i64 l,.int .i64 m] S0 (.int .i64 (YF t l m)):=by
 rw[Ak]at hx|-;refine Bt (fn:=Tryz.f53) U hx U U U U U ?_;obtain⟨o,n,ks⟩:=t;have hlen:=BC (l:=ks);have lh:Yl ks<=d:=by have:Yl ks+1=d+1:=h;omega
 focus
  refine Eh U<|Sq<|Es<|Lv 3 U<|Bd U (fun h1=>?_) (fun h1=>?_);refine Lw U<|Tt U<|Ew U<|Se (Er U ?_);rotate_left;refine Lw U<|Cd U (fun h2=>?_) (fun h2=>?_);refine Ew U<|Se (Er U ?_);rotate_left;refine Sk<|Es<|qm U<|Lq (Zm.sub U aP U U (by omega)) U<|Lw U<|Sq<|Ew U<|Sb ?_;rotate_left
 .show AV.int .i64 (-1)= .int .i64 (YF (.mk o n ks) l m);rw[YF,if_pos (.inl h1)]
 .show AV.int .i64 (-1)= .int .i64 (YF (.mk o n ks) l m);rw[YF,if_pos (.inr h2)]
 refine Ai (fun x:Nat×Int=>([(7,.int .i64 (x.1:Nat)),(1,.int .i64 x.2),(2,.int .i64 m),(3,.Z 0 0)],Y9 1 0 [] [(0,some (.J [.int .i64 o,.int .i64 n,Cs ks] 47 false))])) (fun x=>ks.length-x.1)
  (fun x=>x.1<=ks.length/\Z3 ks (l-1) (m-1)=Z3 (ks.drop x.1) x.2 (m-1)/\-1<=x.2/\x.1+x.2<=1000) (0,l-1) ⟨Qo _,rfl,by dsimp only;omega,by dsimp only;omega⟩ rfl (Ac (by trivial)) ?_
 rintro⟨i,li⟩ ⟨hi,hw,h5,h6⟩;dsimp only at hi hw h5 h6|-;by_cases h:i<ks.length
 .have YK:=BD h;by_cases h0:0<=li
  .have lV:A' K6 53 oE wg (fun p=>CL p.1.1) d 53 [.agg (Cf ks[i]),.int .i64 li,.int .i64 (m-1)]=some (.int .i64 (YF ks[i] li (m-1))):=
    DE Ku ⟨(ks[i],li,m-1),⟨h5,by dsimp only;omega⟩,by dsimp only;omega,by dsimp only;omega⟩ (Nat.le_trans (Bg (Ql h)) lh)
   have hle:=RW ks[i] li (m-1) h5;have C8:=weigh_lt ks[i] li (m-1) h0;rw[Ak]at lV YK;focus
    refine Sq<|Es<|Ls 6 U<|Bd U (fun h3=>?_) (fun h3=>?_);refine Lw U<|Cd U (fun h4=>?_) (fun h4=>?_);refine Sk<|Sq<|Sb<|Sr<|Ls 3 U<|Lq (kv U YK) U<|Lv 3 U<|Lq (Zm.sub U aP U U (by omega)) U<|Lo (kc U (lV)) U<|Lw U<|Sr<|qm U<|Lq (ka (b:=1) U (by omega)) U<|Lw U ?_;rotate_left;omega;omega
   exact⟨(i+1,YF ks[i] li (m-1)),⟨h,by
    rw[hw,List.drop_eq_getElem_cons h,Z3,if_pos h0],hle.1,by dsimp only;omega⟩,by show ks.length-(i+1)<ks.length-i;omega,rfl,rfl,Ac (by trivial)⟩
  .focus
    refine Sq<|Es<|Ls 6 U<|Bd U (fun h3=>?_) (fun h3=>?_);refine Lw U<|Cd U (fun h4=>?_) (fun h4=>?_);omega;refine Sx<|Ax U<|Ew U<|Se (Er U ?_);rotate_left;omega
   show AV.int .i64 li= .int .i64 (YF (.mk o n ks) l m);rw[YF,if_neg (by omega),hw,Js h0]
 .focus
   refine Sq<|Es<|Ls 6 U<|Bd U (fun h3=>?_) (fun h3=>?_);omega;refine Lw U<|Tf U<|Sx<|Ax U<|Ew U<|Se (Er U ?_);rotate_left
  show AV.int .i64 li= .int .i64 (YF (.mk o n ks) l m);rw[YF,if_neg (by omega),hw,List.drop_eq_nil_of_le (by omega)];rfl
noncomputable def KT1:=CX K6 53 oE wg
theorem hq_53 {t:Cc} {l m:Int} (hl: -1<=l/\l<=1000) (hm:0<=m/\m<=1000):KT1 53 [.agg (Cf t),.int .i64 l,.int .i64 m]=some (.int .i64 (YF t l m)):=Aj (enc:=oE) (fun a b h=>by rw[Ku a b h]) ⟨(t,l,m),hl,hm⟩
theorem tall1 (h:CM Tryz.prog 8 [] (.bool true)):Co Tryz.prog gn KT1:=
 Lt (deep:=fun p:WgA=>CL p.1.1) Aw Ag (all6 h) Ku (fun p=>Dt p.1.1) (fun p=>by
  show(Cm 40 (.agg (Cf p.1.1))&&(true&&(true&&true)))=true;rw[AU];rfl) (fun _=>rfl) fun d p hp hx=>weigh_to d p.1.1 p.1.2.1 p.1.2.2 hp p.2.1 p.2.2 hx
end Go.Proofs.YtfhimfcbphepeaaGreatDoor.Ty
open Go Am
namespace Go.Proofs.YtfhimfcbphepeaaGreatDoor.Ty
def G_ (l:List Ci) (n:Int):Int:=(l.getD n.toNat ([],0)).2
def YJ (cs fs:List Ci) (o n k:Int):Bool:=
 if o=1 then decide (k=0)&&ZZ n 0 19
 else if o=2 then decide (k=0)&&ZZ n (-1000000) 1000000
 else if o=3 then ZZ n 0 ((cs.length:Int)-1)&&decide (k=G_ cs n)
 else if o=4 then ZZ n 0 ((fs.length:Int)-1)&&decide (k=G_ fs n)
 else if o=5 then ZZ n 0 ((fs.length:Int)-1)&&decide (k<G_ fs n)
 else if o=8 then decide (k=2)&&ZZ n 0 19
 else if 6<=o/\o<=15 then decide (k=2)&&decide (n=0)
 else false
theorem AG (o n:Int) (ks:List Cc):Cf (.mk o n ks)=[.int .i64 o,.int .i64 n,Cs ks]:=Ak _
theorem Ga {l:List Ci} {m:Nat} (h:m<l.length):G_ l (m:Int)=l[m].2:=by
 unfold G_;rw[Int.toNat_natCast,List.getD_eq_getElem?_getD,Qi h];rfl
def CH (cs fs:List Ci):AV:= .agg [Cp Cq 2 cs,Cp Cq 2 fs]
theorem node_to (cs fs:List Ci) (o n:Int) (ks:List Cc) (hc:cs.length<=4000) (hf:fs.length<=4000) (hk:ks.length<=4000):Cj (EK KT1) 199 [CH cs fs,.agg (Cf (.mk o n ks))] S0 (.bool (YJ cs fs o n (ks.length:Nat))):=by
 have hlen:=BC (l:=ks);rw[AG];unfold CH;refine As U ?_;by_cases e1:o=1
 .subst e1;focus
   iterate 2 refine Eh U ?_
   refine Sq<|Eh U<|Sb<|Ew U<|Tt U<|Es<|Lv 3 U<|Lb U (fun g1=>?_) (fun g1=>?_);have h1:=dT g1;refine Lh U g1 (kq U)<|Lg U g1 (kh U)<|Lg U g1 (kc U (Dj))<|Lq (oT U g1 U) U<|Lw U<|Se (Er U<|Ab ?_);rotate_left;have h1:=dF g1;iterate 3 refine Lk U g1 ?_
   refine Lq (oF U g1 U) U<|Lw U<|Se (Er U<|Ab ?_);rotate_left
  .unfold YJ;rw[g1];rfl
  .unfold YJ;rw[g1];rfl
 by_cases e2:o=2
 .subst e2;focus
   iterate 2 refine Eh U ?_
   refine Sq<|Eh U<|Sb<|Ew U<|Tf U<|Ew U<|Tt U<|Es<|Lv 3 U<|Lb U (fun g1=>?_) (fun g1=>?_);have h1:=dT g1;refine Lh U g1 (kq U)<|Lg U g1 (kh U)<|Lg U g1 (kc U (Dj))<|Lq (oT U g1 U) U<|Lw U<|Se (Er U<|Ab ?_);rotate_left;have h1:=dF g1;iterate 3 refine Lk U g1 ?_
   refine Lq (oF U g1 U) U<|Lw U<|Se (Er U<|Ab ?_);rotate_left
  .unfold YJ;rw[g1];rfl
  .unfold YJ;rw[g1];rfl
 by_cases e3:o=3
 .subst e3;cases Z2:ZZ n 0 ((cs.length:Int)-1)with
  |false=>
   iterate 2 refine Eh U ?_
   refine Sq<|Eh U<|Sb<|Ew U<|Tf U<|Ew U<|Tf U<|Ew U<|Tt U<|Es<|Ls 5 U<|Lq (Zm.sub U aP U U (by omega)) U<|Lo (kc U (Dj)) U<|qm U ?_;iterate 9 refine Lk U Z2 ?_
   refine Lq (oF U Z2 U) U<|Lw U<|Se (Er U ?_);refine Ab ?_;unfold YJ;rw[Z2];rfl
  |true=>
   have hb:0<=n/\n<=(cs.length:Int)-1:=by
    unfold ZZ at Z2;rw[Qf]at Z2;exact⟨dT Z2.1,dT Z2.2⟩
   obtain⟨m,rfl⟩:∃m:Nat,n=(m:Int):=⟨n.natAbs,by omega⟩
   have hm:m<cs.length:=by omega
   have YK:=A6 A0 hm;have Zb:ZZ (m:Int) 0 ((cs.length-1:Nat):Int)=true:=by rw[show((cs.length-1:Nat):Int)=(cs.length:Int)-1 by omega];exact Z2
   iterate 2 refine Eh U ?_
   refine Sq<|Eh U<|Sb<|Ew U<|Tf U<|Ew U<|Tf U<|Ew U<|Tt U<|Es<|Ls 5 U<|Lq (Aq (b:=1) U aP U U (by omega)) U<|Lo (kc U (Dj)) U<|qm U ?_;iterate 2 refine Lh U Zb (kq U) ?_
   refine Lg U Zb (kh U)<|Lh U Zb (kq U)<|Lg U Zb (kh U)<|Lh U Zb (kv U YK) ?_;iterate 3 refine Lh U Zb (kq U) ?_
   refine Lq (oT U Zb U) U<|Lw U<|Se (Er U ?_);refine Ab ?_;unfold YJ;rw[Z2,Ga hm];rfl
 by_cases e4:o=4
 .subst e4;cases Z2:ZZ n 0 ((fs.length:Int)-1)with
  |false=>
   iterate 2 refine Eh U ?_
   refine Sq<|Eh U<|Sb<|Ew U<|Tf U<|Ew U<|Tf U<|Ew U<|Tf U<|Ew U<|Tt U<|Es<|Ls 5 U<|Lq (Zm.sub U aP U U (by omega)) U<|Lo (kc U (Dj)) U<|qm U ?_;iterate 9 refine Lk U Z2 ?_
   refine Lq (oF U Z2 U) U<|Lw U<|Se (Er U ?_);refine Ab ?_;unfold YJ;rw[Z2];rfl
  |true=>
   have hb:0<=n/\n<=(fs.length:Int)-1:=by
    unfold ZZ at Z2;rw[Qf]at Z2;exact⟨dT Z2.1,dT Z2.2⟩
   obtain⟨m,rfl⟩:∃m:Nat,n=(m:Int):=⟨n.natAbs,by omega⟩
   have hm:m<fs.length:=by omega
   have YK:=A6 A0 hm;have Zb:ZZ (m:Int) 0 ((fs.length-1:Nat):Int)=true:=by rw[show((fs.length-1:Nat):Int)=(fs.length:Int)-1 by omega];exact Z2
   iterate 2 refine Eh U ?_
   refine Sq<|Eh U<|Sb<|Ew U<|Tf U<|Ew U<|Tf U<|Ew U<|Tf U<|Ew U<|Tt U<|Es<|Ls 5 U<|Lq (Aq (b:=1) U aP U U (by omega)) U<|Lo (kc U (Dj)) U<|qm U ?_;iterate 2 refine Lh U Zb (kq U) ?_
   refine Lg U Zb (kh U)<|Lh U Zb (kq U)<|Lg U Zb (kh U)<|Lh U Zb (kv U YK) ?_;iterate 3 refine Lh U Zb (kq U) ?_
   refine Lq (oT U Zb U) U<|Lw U<|Se (Er U ?_);refine Ab ?_;unfold YJ;rw[Z2,Ga hm];rfl
 by_cases e5:o=5
 .subst e5;cases Z2:ZZ n 0 ((fs.length:Int)-1)with
  |false=>
   iterate 2 refine Eh U ?_
   refine Sq<|Eh U<|Sb<|Ew U<|Tf U<|Ew U<|Tf U<|Ew U<|Tf U<|Ew U<|Tf U<|Ew U<|Tt U<|Es<|Ls 5 U<|Lq (Zm.sub U aP U U (by omega)) U<|Lo (kc U (Dj)) U<|qm U ?_;iterate 9 refine Lk U Z2 ?_
   refine Lq (oF U Z2 U) U<|Lw U<|Se (Er U ?_);refine Ab ?_;unfold YJ;rw[Z2];rfl
  |true=>
   have hb:0<=n/\n<=(fs.length:Int)-1:=by
    unfold ZZ at Z2;rw[Qf]at Z2;exact⟨dT Z2.1,dT Z2.2⟩
   obtain⟨m,rfl⟩:∃m:Nat,n=(m:Int):=⟨n.natAbs,by omega⟩
   have hm:m<fs.length:=by omega
   have YK:=A6 A0 hm;have Zb:ZZ (m:Int) 0 ((fs.length-1:Nat):Int)=true:=by rw[show((fs.length-1:Nat):Int)=(fs.length:Int)-1 by omega];exact Z2
   iterate 2 refine Eh U ?_
   refine Sq<|Eh U<|Sb<|Ew U<|Tf U<|Ew U<|Tf U<|Ew U<|Tf U<|Ew U<|Tf U<|Ew U<|Tt U<|Es<|Ls 5 U<|Lq (Aq (b:=1) U aP U U (by omega)) U<|Lo (kc U (Dj)) U<|qm U ?_;iterate 2 refine Lh U Zb (kq U) ?_
   refine Lg U Zb (kh U)<|Lh U Zb (kq U)<|Lg U Zb (kh U)<|Lh U Zb (kv U YK) ?_;iterate 3 refine Lh U Zb (kq U) ?_
   refine Lq (oT U Zb U) U<|Lw U<|Se (Er U ?_);refine Ab ?_;unfold YJ;rw[Z2,Ga hm];rfl
 by_cases e8:o=8
 .subst e8;focus
   iterate 2 refine Eh U ?_
   refine Sq<|Eh U<|Sb<|Ew U<|Tf U<|Ew U<|Tf U<|Ew U<|Tf U<|Ew U<|Tf U<|Ew U<|Tf U<|Ew U<|Tt U<|Es<|Lv 3 U<|Lb U (fun g1=>?_) (fun g1=>?_);have h1:=dT g1;refine Lh U g1 (kq U)<|Lg U g1 (kh U)<|Lg U g1 (kc U (Dj))<|Lq (oT U g1 U) U<|Lw U<|Se (Er U<|Ab ?_);rotate_left;have h1:=dF g1;iterate 3 refine Lk U g1 ?_
   refine Lq (oF U g1 U) U<|Lw U<|Se (Er U<|Ab ?_);rotate_left
  .unfold YJ;rw[g1];rfl
  .unfold YJ;rw[g1];rfl
 focus
  iterate 2 refine Eh U ?_
  refine Sq<|Eh U<|Sb<|Ew U<|Ec U (fun g1=>?_) (fun g1=>?_);have h1:=dT g1;omega;have h1:=dF g1;refine Ew U<|Ec U (fun g2=>?_) (fun g2=>?_);have h2:=dT g2;omega;have h2:=dF g2;refine Ew U<|Ec U (fun g3=>?_) (fun g3=>?_);have h3:=dT g3;omega;have h3:=dF g3;refine Ew U<|Ec U (fun g4=>?_) (fun g4=>?_);have h4:=dT g4;omega;have h4:=dF g4;refine Ew U<|Ec U (fun g5=>?_) (fun g5=>?_);have h5:=dT g5;omega;have h5:=dF g5;refine Ew U<|Ec U (fun g6=>?_) (fun g6=>?_);have h6:=dT g6;omega;have h6:=dF g6;refine Sq ?_;rotate_left
 refine D6 (fun b:Bool=>([(98,.bool b),(5,.int .i64 (ks.length:Nat)),(3,.Z 1 0)],Y9 2 0 [] [(1,some (.J [.int .i64 o,.int .i64 n,Cs ks] 47 false)),(0,some (.J [Cp Cq 2 cs,Cp Cq 2 fs] 40 false))])) (fun b=>b=true↔6<=o/\o<=15) ?_ ?_
 .focus
   refine Ew U<|Ec U (fun g7=>?_) (fun g7=>?_);have h7:=dT g7;refine Sk ?_;rotate_left;have h7:=dF g7;refine Ew U<|Ec U (fun g8=>?_) (fun g8=>?_);have h8:=dT g8;refine Sk ?_;rotate_left;have h8:=dF g8;refine Ew U<|Ec U (fun g9=>?_) (fun g9=>?_);have h9:=dT g9;refine Sk ?_;rotate_left;have h9:=dF g9;refine Ew U<|Ec U (fun g10=>?_) (fun g10=>?_);have xj:=dT g10;refine Sk ?_;rotate_left;have xj:=dF g10;refine Ew U<|Ec U (fun g11=>?_) (fun g11=>?_);have h11:=dT g11;refine Sk ?_;rotate_left;have h11:=dF g11;refine Ew U<|Ec U (fun g12=>?_) (fun g12=>?_);have h12:=dT g12;refine Sk ?_;rotate_left;have h12:=dF g12;refine Ew U<|Ec U (fun g13=>?_) (fun g13=>?_);have h13:=dT g13;refine Sk ?_;rotate_left;have h13:=dF g13;refine Ew U<|Ec U (fun g14=>?_) (fun g14=>?_);have h14:=dT g14;refine Sk ?_;rotate_left;have h14:=dF g14
   refine Sr<|Lw U ?_;rotate_left
  .exact⟨rfl,decide (o=6),⟨fun h=>by have:=dT h;omega,fun _=>decide_eq_true h7⟩,rfl,Ac (by trivial)⟩
  .exact⟨rfl,decide (o=7),⟨fun h=>by have:=dT h;omega,fun _=>decide_eq_true h8⟩,rfl,Ac (by trivial)⟩
  .exact⟨rfl,decide (o=9),⟨fun h=>by have:=dT h;omega,fun _=>decide_eq_true h9⟩,rfl,Ac (by trivial)⟩
  .exact⟨rfl,decide (o=10),⟨fun h=>by have:=dT h;omega,fun _=>decide_eq_true xj⟩,rfl,Ac (by trivial)⟩
  .exact⟨rfl,decide (o=11),⟨fun h=>by have:=dT h;omega,fun _=>decide_eq_true h11⟩,rfl,Ac (by trivial)⟩
  .exact⟨rfl,decide (o=12),⟨fun h=>by have:=dT h;omega,fun _=>decide_eq_true h12⟩,rfl,Ac (by trivial)⟩
  .exact⟨rfl,decide (o=13),⟨fun h=>by have:=dT h;omega,fun _=>decide_eq_true h13⟩,rfl,Ac (by trivial)⟩
  .exact⟨rfl,decide (o=14),⟨fun h=>by have:=dT h;omega,fun _=>decide_eq_true h14⟩,rfl,Ac (by trivial)⟩
  .exact⟨rfl,decide (o=15),⟨fun h=>by have:=dT h;omega,fun h=>decide_eq_true (by omega)⟩,rfl,Ac (by trivial)⟩
 rintro b hb;dsimp only;have hN:YJ cs fs o n (ks.length:Nat)=if 6<=o/\o<=15 then decide ((ks.length:Int)=2)&&decide (n=0)else false:=by
  unfold YJ;rw[if_neg e1,if_neg e2,if_neg e3,if_neg e4,if_neg e5,if_neg e8]
 cases b with
 |true=>
  rw[hN,if_pos (hb.1 rfl)];focus
   refine Tt U<|Es<|Lv 3 U<|Lb U (fun g7=>?_) (fun g7=>?_);have h7:=dT g7;refine Lh U g7 (kq U)<|Lg U g7 (kh U)<|Lh U g7 (kq U)<|Lq (oT U g7 U) U<|Lw U<|Se (Er U<|Ab ?_);rotate_left;have h7:=dF g7;iterate 3 refine Lk U g7 ?_
   refine Lq (oF U g7 U) U<|Lw U<|Se (Er U<|Ab ?_);rotate_left
  .rw[g7];rfl
  .rw[g7];rfl
 |false=>
  rw[hN,if_neg fun h=>by cases hb.2 h];refine Tf U<|Sk<|Ew U<|Se (Er U ?_);exact Ab U
abbrev oX:= {p:(List Ci×List Ci)×(Int×Int×List Cc)//p.1.1.length<=4000/\p.1.2.length<=4000/\p.2.2.2.length<=4000}
noncomputable def KT2:=CX KT1 199 (fun p:oX=>[CH p.1.1.1 p.1.1.2,.agg (Cf (.mk p.1.2.1 p.1.2.2.1 p.1.2.2.2))]) (fun p=> .bool (YJ p.1.1.1 p.1.1.2 p.1.2.1 p.1.2.2.1 (p.1.2.2.2.length:Nat)))
theorem Dr {a b c d:List Ci} (h:CH a b=CH c d):a=c/\b=d:=by
 have h:=AV.agg.inj h;simp only[List.cons.injEq,and_true]at h;exact⟨B8 BP A0 h.1,B8 BP A0 h.2⟩
theorem Rt {cs fs:List Ci} {o n:Int} {ks:List Cc} (hc:cs.length<=4000) (hf:fs.length<=4000) (hk:ks.length<=4000):KT2 199 [CH cs fs,.agg (Cf (.mk o n ks))]=some (.bool (YJ cs fs o n (ks.length:Nat))):=
 Aj (f:=199) (enc:=fun p:oX=>[CH p.1.1.1 p.1.1.2,.agg (Cf (.mk p.1.2.1 p.1.2.2.1 p.1.2.2.2))]) (res:=fun p=> .bool (YJ p.1.1.1 p.1.1.2 p.1.2.1 p.1.2.2.1 (p.1.2.2.2.length:Nat))) (by
  rintro⟨⟨⟨a,b⟩,⟨c,d,e⟩⟩,_⟩ ⟨⟨⟨a',b'⟩,⟨c',d',e'⟩⟩,_⟩ h;simp only[List.cons.injEq,and_true]at h;obtain⟨rfl,rfl⟩:=Dr h.1;have:=AO _ _ (AV.agg.inj h.2);cases this;rfl) ⟨((cs,fs),(o,n,ks)),hc,hf,hk⟩
theorem tall2 (h:CM Tryz.prog 8 [] (.bool true)):Co Tryz.prog gn KT2:=
 Al Aw Ag (tall1 h) (fun p:oX=>node_to p.1.1.1 p.1.1.2 p.1.2.1 p.1.2.2.1 p.1.2.2.2 p.2.1 p.2.2.1 p.2.2.2) (fun p=>by
  show(Cm 40 (CH _ _)&&(Cm 40 (.agg (Cf _))&&true))=true;rw[AU];rfl) (fun _=>rfl)
end Go.Proofs.YtfhimfcbphepeaaGreatDoor.Ty
open Go Am
namespace Go.Proofs.YtfhimfcbphepeaaGreatDoor.Ty
mutual
def ZD (cs fs:List Ci):Cc->Bool
 | .mk o n ks=>YJ cs fs o n (ks.length:Nat)&&cp cs fs ks
def cp (cs fs:List Ci):List Cc->Bool
 | []=>true
 |t::ts=>ZD cs fs t&&cp cs fs ts
end
theorem Da {cs fs:List Ci}:∀ {ts:List Cc},cp cs fs ts=true->∀t∈ts,ZD cs fs t=true
 |u::ts,h,t,ht=>by
  rw[cp,Qf]at h;rcases Qk.1 ht with rfl|ht
  .exact h.1
  .exact Da h.2 t ht
theorem PZ {cs fs:List Ci}:∀ {ts:List Cc},(∀t∈ts,ZD cs fs t=true)->cp cs fs ts=true
 | [],_=>rfl
 |u::ts,h=>by
  rw[cp,h u (Qh ..),PZ fun t ht=>h t (Qg _ ht)];rfl
abbrev AlT (d:Nat):= {p:(List Ci×List Ci)×Cc//p.1.1.length<=4000/\p.1.2.length<=4000/\CL p.2<=d/\YN p.2}
noncomputable def KN:Nat->FuncId->List AV->Option AV
 |0=>KT2
 |d+1=>CX (KN d) 126 (fun p:AlT (d+1)=>[CH p.1.1.1 p.1.1.2,.agg (Cf p.1.2)]) (fun p=> .bool (ZD p.1.1.1 p.1.1.2 p.1.2))
theorem Yj:∀(d:Nat) (a:List AV),KN d 199 a=KT2 199 a
 |0,_=>rfl
 |d+1,a=>Yj d a
theorem WW {d:Nat} {cs fs:List Ci} {t:Cc} (hc:cs.length<=4000) (hf:fs.length<=4000) (h:CL t<=d) (hs:YN t):KN d 126 [CH cs fs,.agg (Cf t)]=some (.bool (ZD cs fs t)):=by
 cases d with
 |zero=>rw[Fy]at h;omega
 |succ d=>
  exact Aj (f:=126) (enc:=fun p:AlT (d+1)=>[CH p.1.1.1 p.1.1.2,.agg (Cf p.1.2)]) (res:=fun p=> .bool (ZD p.1.1.1 p.1.1.2 p.1.2)) (by
   rintro⟨⟨⟨a,b⟩,c⟩,_⟩ ⟨⟨⟨a',b'⟩,c'⟩,_⟩ h;simp only[List.cons.injEq,and_true]at h;obtain⟨rfl,rfl⟩:=Dr h.1;obtain rfl:=AO _ _ (AV.agg.inj h.2);rfl) ⟨((cs,fs),t),hc,hf,h,hs⟩
theorem nodes_to (d:Nat) (cs fs:List Ci) (t:Cc) (hc:cs.length<=4000) (hf:fs.length<=4000) (h:CL t<=d+1) (hs:YN t):Cj (EK (KN d)) 126 [CH cs fs,.agg (Cf t)] S0 (.bool (ZD cs fs t)):=by
 have hx:KN d 126 [CH cs fs,.agg (Cf t)]=none\/KN d 126 [CH cs fs,.agg (Cf t)]=some (.bool (ZD cs fs t)):=by
  cases d with
  |zero=>exact .inl rfl
  |succ d=>
   by_cases hd:CL t<=d+1
   .exact .inr (WW hc hf hd hs)
   .refine .inl (Qt fun p e=>hd ?_);obtain⟨⟨⟨a,b⟩,c⟩,hp⟩:=p;simp only[List.cons.injEq,and_true]at e;obtain rfl:=AO _ _ (AV.agg.inj e.2);exact hp.2.2.1
 rcases hx with hx|hx;rotate_left
 .exact Cj.ay hx
 obtain⟨o,n,ks⟩:=t;cases hs with
 |mk hk u4=>
 have cW:KN d 199 [CH cs fs,.agg (Cf (.mk o n ks))]=some (.bool (YJ cs fs o n (ks.length:Nat))):=(Yj d _).trans (Rt hc hf hk);rw[AG]at hx cW|-;unfold CH at hx cW|-;have Rt:=cW;refine Bt (fn:=Tryz.f126) U hx U U U U U ?_;have hlen:=BC (l:=ks);have lh:Yl ks<=d:=by have:Yl ks+1<=d+1:=h;omega
 focus
  refine Eh U<|Sq<|Es<|Ls 2 U<|Lo (kc U (Rt)) U<|Lw U<|Cn U (fun h1=>?_) (fun h1=>?_);refine Ew U<|Se (Er U<|Ab ?_);rotate_left;refine Sk<|Sq<|Ew U<|Sb ?_;rotate_left
 .rw[ZD,h1];rfl
 refine Ai (fun i:Nat=>([(5,.int .i64 (i:Nat)),(3,.Z 1 0),(2,.Z 0 0)],Y9 2 0 [] [(1,some (.J [.int .i64 o,.int .i64 n,Cs ks] 47 false)),(0,some (.J [Cp Cq 2 cs,Cp Cq 2 fs] 40 false))])) (fun i=>ks.length-i)
  (fun i=>i<=ks.length/\∀j (hj:j<ks.length),j<i->ZD cs fs ks[j]=true) 0 ⟨Qo _,fun j _ h=>absurd h (Nat.not_lt_zero _)⟩ rfl (Ac (by trivial)) ?_
 rintro i ⟨hi,ha⟩;dsimp only at hi ha|-;by_cases h:i<ks.length
 .have YK:=BD h;have mR:=WW (d:=d) (t:=ks[i]) hc hf (Nat.le_trans (Bg (Ql h)) lh) (u4 _ (Ql h));rw[Ak]at mR YK;unfold CH at mR;focus
   refine Sq<|Eh U<|Cd U (fun h2=>?_) (fun h2=>?_);refine Sk<|Sq<|Sb<|Af U<|A9 U Qs Oe U U (Qc U) U (.inl U) U U<|Nv 1 U<|Ad U Ep En U U U U (.inl U) U U<|Nv 1 U<|Nq (kv U YK) U<|Nv 1 U<|Na (kC U (mR)) (.inl U) U<|Nw U<|Cn U (fun h3=>?_) (fun h3=>?_);refine Ew U<|Se (Er U<|Ab ?_);rotate_left;refine Sk<|Sr<|qm U<|Lq (ka (b:=1) U (by omega)) U<|Lw U ?_;rotate_left;omega
  .rw[ZD,h1];cases hA:cp cs fs ks with
   |false=>rfl
   |true=>
    rw[Da hA _ (Ql h)]at h3;cases h3
  .exact⟨i+1,⟨h,fun j hj C8=>by
    rcases Nat.lt_or_ge j i with h4|h4
    .exact ha j hj h4
    .obtain rfl:j=i:=by omega
     exact h3⟩,by show ks.length-(i+1)<ks.length-i;omega,U,U,Ac (by trivial)⟩
 .focus
   refine Sq<|Eh U<|Cd U (fun h2=>?_) (fun h2=>?_);omega;refine Sx<|Ax U<|Ew U<|Se (Er U<|Ab ?_);rotate_left
  rw[ZD,h1,PZ fun t ht=>by
   obtain⟨j,hj,rfl⟩:=List.mem_iff_getElem.1 ht;exact ha j hj (by omega)];rfl
theorem allKN (h:CM Tryz.prog 8 [] (.bool true)):∀d,Co Tryz.prog gn (KN d)
 |0=>tall2 h
 |d+1=>Al Aw Ag (allKN h d) (fun p:AlT (d+1)=>nodes_to d p.1.1.1 p.1.1.2 p.1.2 p.2.1 p.2.2.1 p.2.2.2.1 p.2.2.2.2) (fun p=>by
  show(Cm 40 (CH _ _)&&(Cm 40 (.agg (Cf _))&&true))=true;rw[AU];rfl) (fun _=>rfl)
abbrev SgT:= {p:(List Ci×List Ci)×Cc//p.1.1.length<=4000/\p.1.2.length<=4000/\YN p.2}
noncomputable def KT3:=CX KT2 126 (fun p:SgT=>[CH p.1.1.1 p.1.1.2,.agg (Cf p.1.2)]) (fun p=> .bool (ZD p.1.1.1 p.1.1.2 p.1.2))
theorem Hs {a b c d:List Ci} {t u:Cc} (h: [CH a b,.agg (Cf t)]=[CH c d,.agg (Cf u)]):a=c/\b=d/\t=u:=by
 simp only[List.cons.injEq,and_true]at h;obtain⟨rfl,rfl⟩:=Dr h.1;exact⟨U,U,AO _ _ (AV.agg.inj h.2)⟩
theorem hq_126 {cs fs:List Ci} {t:Cc} (hc:cs.length<=4000) (hf:fs.length<=4000) (hs:YN t):KT3 126 [CH cs fs,.agg (Cf t)]=some (.bool (ZD cs fs t)):=
 Aj (f:=126) (enc:=fun p:SgT=>[CH p.1.1.1 p.1.1.2,.agg (Cf p.1.2)]) (res:=fun p=> .bool (ZD p.1.1.1 p.1.1.2 p.1.2)) (by
  rintro⟨⟨⟨a,b⟩,c⟩,_⟩ ⟨⟨⟨a',b'⟩,c'⟩,_⟩ h;obtain⟨rfl,rfl,rfl⟩:=Hs h;rfl) ⟨((cs,fs),t),hc,hf,hs⟩
def CQ (cs fs:List Ci) (t:Cc):Bool:=decide (0<=YF t 40 12)&&ZD cs fs t
theorem term_to (cs fs:List Ci) (t:Cc) (hc:cs.length<=4000) (hf:fs.length<=4000) (hs:YN t):Cj (EK KT3) 61 [CH cs fs,.agg (Cf t)] S0 (.bool (CQ cs fs t)):=by
 have mR:=hq_126 hc hf hs;have lV:=hq_53 (t:=t) (l:=40) (m:=12) (by decide) (by decide);rw[Ak]at*;unfold CH at*;refine As U ?_;focus
  refine Eh U<|Es<|Ls 1 U<|Lo (kc U (lV)) U<|Lv 2 U<|Bb U (fun g1=>?_) (fun g1=>?_);have h1:=dT g1;refine Ls 2 U<|Lg U U (Dq U U U U (Cj.ay (mR)))<|Lw U<|AA (Er U<|Ab ?_);rotate_left;have h1:=dF g1;refine Lw U<|AA (Er U<|Ab ?_);rotate_left
 .unfold CQ;rw[g1];rfl
 .unfold CQ;rw[g1];rfl
noncomputable def KT4:=CX KT3 61 (fun p:SgT=>[CH p.1.1.1 p.1.1.2,.agg (Cf p.1.2)]) (fun p=> .bool (CQ p.1.1.1 p.1.1.2 p.1.2))
theorem hq_61 {cs fs:List Ci} {t:Cc} (hc:cs.length<=4000) (hf:fs.length<=4000) (hs:YN t):KT4 61 [CH cs fs,.agg (Cf t)]=some (.bool (CQ cs fs t)):=
 Aj (f:=61) (enc:=fun p:SgT=>[CH p.1.1.1 p.1.1.2,.agg (Cf p.1.2)]) (res:=fun p=> .bool (CQ p.1.1.1 p.1.1.2 p.1.2)) (by
  rintro⟨⟨⟨a,b⟩,c⟩,_⟩ ⟨⟨⟨a',b'⟩,c'⟩,_⟩ h;obtain⟨rfl,rfl,rfl⟩:=Hs h;rfl) ⟨((cs,fs),t),hc,hf,hs⟩
theorem Ol (p:SgT):([CH p.1.1.1 p.1.1.2,.agg (Cf p.1.2)]:List AV).all (Cm 40)=true:=by
 show(Cm 40 (CH _ _)&&(Cm 40 (.agg (Cf _))&&true))=true;rw[AU];rfl
theorem tall4 (h:CM Tryz.prog 8 [] (.bool true)):Co Tryz.prog gn KT4:=by
 have a3:Co Tryz.prog gn KT3:=AE (tall2 h) fun p:SgT=>allKN h (CL p.1.2) _ _ _ (WW p.2.1 p.2.2.1 (Qj _) p.2.2.2);exact Al Aw Ag a3 (fun p:SgT=>term_to p.1.1.1 p.1.1.2 p.1.2 p.2.1 p.2.2.1 p.2.2.2) Ol (fun _=>rfl)
end Go.Proofs.YtfhimfcbphepeaaGreatDoor.Ty
open Go Am
namespace Go.Proofs.YtfhimfcbphepeaaGreatDoor.Ty
theorem H5 {a b:List Cc} (h:Cs a=Cs b):a=b:=by
 have:Cf (.mk 0 0 a)=Cf (.mk 0 0 b):=by rw[AG,AG,h]
 cases AO _ _ this;rfl
def oG (n k:Int):Bool:=decide (n=0)&&decide (k=2)
def ub (n k:Int):Bool:=ZZ n 0 19&&decide (k=0)
def uc (n k:Int):Bool:=ZZ n (-1000000) 1000000&&decide (k=0)
def ud (n k:Int):Bool:=ZZ n 0 19&&decide (k=2)
def cQ (l:List Ci) (n k:Int):Bool:=ZZ n 0 ((l.length:Int)-1)&&decide (k=G_ l n)
def oH (l:List Ci) (n k:Int):Bool:=ZZ n 0 ((l.length:Int)-1)&&decide (k<G_ l n)
theorem QE (cs fs:List Ci) (o n:Int) (ks:List Cc):Cj (EK KT4) 273 [CH cs fs,.agg (Cf (.mk o n ks))] S0 (.bool (ub n (ks.length:Nat))):=by
 have hlen:=BC (l:=ks);rw[AG];unfold CH;refine As U ?_;focus
  refine Eh U<|Es<|Ls 2 U<|Lo (kc U (D1)) U<|qm U<|Bb U (fun g1=>?_) (fun g1=>?_);refine Lx U<|Se (Er U<|Ab ?_);rotate_left;refine Lw U<|Se (Er U<|Ab ?_);rotate_left
 .unfold ub;rw[g1];rfl
 .unfold ub;rw[g1];rfl
noncomputable def KC1:=CX KT4 273 (fun p:oX=>[CH p.1.1.1 p.1.1.2,.agg (Cf (.mk p.1.2.1 p.1.2.2.1 p.1.2.2.2))]) (fun p=> .bool (ub p.1.2.2.1 (p.1.2.2.2.length:Nat)))
theorem Rs {cs fs:List Ci} {o n:Int} {ks:List Cc} (hc:cs.length<=4000) (hf:fs.length<=4000) (hk:ks.length<=4000):KC1 273 [CH cs fs,.agg (Cf (.mk o n ks))]=some (.bool (ub n (ks.length:Nat))):=
 Aj (f:=273) (enc:=fun p:oX=>[CH p.1.1.1 p.1.1.2,.agg (Cf (.mk p.1.2.1 p.1.2.2.1 p.1.2.2.2))]) (res:=fun p=> .bool (ub p.1.2.2.1 (p.1.2.2.2.length:Nat))) (by
  rintro⟨⟨⟨a,b⟩,⟨c,d,e⟩⟩,_⟩ ⟨⟨⟨a',b'⟩,⟨c',d',e'⟩⟩,_⟩ h;obtain⟨rfl,rfl,h⟩:=Hs h;cases h;rfl) ⟨((cs,fs),(o,n,ks)),hc,hf,hk⟩
theorem U4 (cs fs:List Ci) (o n:Int) (ks:List Cc):Cj (EK KC1) 274 [CH cs fs,.agg (Cf (.mk o n ks))] S0 (.bool (uc n (ks.length:Nat))):=by
 have hlen:=BC (l:=ks);rw[AG];unfold CH;refine As U ?_;focus
  refine Eh U<|Es<|Ls 2 U<|Lo (kc U (D1)) U<|qm U<|Bb U (fun g1=>?_) (fun g1=>?_);refine Lx U<|Se (Er U<|Ab ?_);rotate_left;refine Lw U<|Se (Er U<|Ab ?_);rotate_left
 .unfold uc;rw[g1];rfl
 .unfold uc;rw[g1];rfl
noncomputable def KC2:=CX KC1 274 (fun p:oX=>[CH p.1.1.1 p.1.1.2,.agg (Cf (.mk p.1.2.1 p.1.2.2.1 p.1.2.2.2))]) (fun p=> .bool (uc p.1.2.2.1 (p.1.2.2.2.length:Nat)))
theorem Rr {cs fs:List Ci} {o n:Int} {ks:List Cc} (hc:cs.length<=4000) (hf:fs.length<=4000) (hk:ks.length<=4000):KC2 274 [CH cs fs,.agg (Cf (.mk o n ks))]=some (.bool (uc n (ks.length:Nat))):=
 Aj (f:=274) (enc:=fun p:oX=>[CH p.1.1.1 p.1.1.2,.agg (Cf (.mk p.1.2.1 p.1.2.2.1 p.1.2.2.2))]) (res:=fun p=> .bool (uc p.1.2.2.1 (p.1.2.2.2.length:Nat))) (by
  rintro⟨⟨⟨a,b⟩,⟨c,d,e⟩⟩,_⟩ ⟨⟨⟨a',b'⟩,⟨c',d',e'⟩⟩,_⟩ h;obtain⟨rfl,rfl,h⟩:=Hs h;cases h;rfl) ⟨((cs,fs),(o,n,ks)),hc,hf,hk⟩
theorem let_to (cs fs:List Ci) (o n:Int) (ks:List Cc):Cj (EK KC2) 278 [CH cs fs,.agg (Cf (.mk o n ks))] S0 (.bool (ud n (ks.length:Nat))):=by
 have hlen:=BC (l:=ks);rw[AG];unfold CH;refine As U ?_;focus
  refine Eh U<|Es<|Ls 2 U<|Lo (kc U (D1)) U<|qm U<|Bb U (fun g1=>?_) (fun g1=>?_);refine Lx U<|Se (Er U<|Ab ?_);rotate_left;refine Lw U<|Se (Er U<|Ab ?_);rotate_left
 .unfold ud;rw[g1];rfl
 .unfold ud;rw[g1];rfl
noncomputable def KC3:=CX KC2 278 (fun p:oX=>[CH p.1.1.1 p.1.1.2,.agg (Cf (.mk p.1.2.1 p.1.2.2.1 p.1.2.2.2))]) (fun p=> .bool (ud p.1.2.2.1 (p.1.2.2.2.length:Nat)))
theorem Rn {cs fs:List Ci} {o n:Int} {ks:List Cc} (hc:cs.length<=4000) (hf:fs.length<=4000) (hk:ks.length<=4000):KC3 278 [CH cs fs,.agg (Cf (.mk o n ks))]=some (.bool (ud n (ks.length:Nat))):=
 Aj (f:=278) (enc:=fun p:oX=>[CH p.1.1.1 p.1.1.2,.agg (Cf (.mk p.1.2.1 p.1.2.2.1 p.1.2.2.2))]) (res:=fun p=> .bool (ud p.1.2.2.1 (p.1.2.2.2.length:Nat))) (by
  rintro⟨⟨⟨a,b⟩,⟨c,d,e⟩⟩,_⟩ ⟨⟨⟨a',b'⟩,⟨c',d',e'⟩⟩,_⟩ h;obtain⟨rfl,rfl,h⟩:=Hs h;cases h;rfl) ⟨((cs,fs),(o,n,ks)),hc,hf,hk⟩
theorem pair_to (cs fs:List Ci) (o n:Int) (ks:List Cc):Cj (EK KC3) 279 [CH cs fs,.agg (Cf (.mk o n ks))] S0 (.bool (oG n (ks.length:Nat))):=by
 have hlen:=BC (l:=ks);rw[AG];unfold CH;refine As U ?_;focus
  refine Eh U<|Es<|Ls 4 U<|UU U U U U (fun g1=>?_) (fun g1=>?_);have h1:=dT g1;refine Lx U<|AA (Er U<|Ab ?_);rotate_left;have h1:=dF g1;refine Lw U<|AA (Er U<|Ab ?_);rotate_left
 .unfold oG;rw[g1];rfl
 .unfold oG;rw[g1];rfl
noncomputable def KC4:=CX KC3 279 (fun p:oX=>[CH p.1.1.1 p.1.1.2,.agg (Cf (.mk p.1.2.1 p.1.2.2.1 p.1.2.2.2))]) (fun p=> .bool (oG p.1.2.2.1 (p.1.2.2.2.length:Nat)))
theorem B9 {cs fs:List Ci} {o n:Int} {ks:List Cc} (hc:cs.length<=4000) (hf:fs.length<=4000) (hk:ks.length<=4000):KC4 279 [CH cs fs,.agg (Cf (.mk o n ks))]=some (.bool (oG n (ks.length:Nat))):=
 Aj (f:=279) (enc:=fun p:oX=>[CH p.1.1.1 p.1.1.2,.agg (Cf (.mk p.1.2.1 p.1.2.2.1 p.1.2.2.2))]) (res:=fun p=> .bool (oG p.1.2.2.1 (p.1.2.2.2.length:Nat))) (by
  rintro⟨⟨⟨a,b⟩,⟨c,d,e⟩⟩,_⟩ ⟨⟨⟨a',b'⟩,⟨c',d',e'⟩⟩,_⟩ h;obtain⟨rfl,rfl,h⟩:=Hs h;cases h;rfl) ⟨((cs,fs),(o,n,ks)),hc,hf,hk⟩
theorem tcon_to (cs fs:List Ci) (o n:Int) (ks:List Cc) (hc:cs.length<=4000) (hf:fs.length<=4000):Cj (EK KC4) 275 [CH cs fs,.agg (Cf (.mk o n ks))] S0 (.bool (cQ cs n (ks.length:Nat))):=by
 have hlen:=BC (l:=ks);rw[AG];unfold CH;refine As U ?_;cases Z2:ZZ n 0 ((cs.length:Int)-1)with
 |false=>
  refine Eh U<|Af (by kernel_rfl)<|Nv 1 U<|Ad U GM Eo U U U U (.inl U) U U<|Nv 2 U<|Ad U EC E9 U U U U (.inl U) U U<|Nv 1 U<|Nq (Zm.sub U aP U U (by omega)) U ?_;refine Na (kC U (D1)) (.inl U) U<|Nq (kq U) U ?_;iterate 12 refine Nk U Z2 ?_
  refine Nq (oF U Z2 U) U<|Nq (kq U) U<|CF.done ?_;refine Se (Er U ?_);refine Ab ?_;unfold cQ;rw[Z2];rfl
 |true=>
  have hb:0<=n/\n<=(cs.length:Int)-1:=by
   unfold ZZ at Z2;rw[Qf]at Z2;exact⟨dT Z2.1,dT Z2.2⟩
  obtain⟨m,rfl⟩:∃m:Nat,n=(m:Int):=⟨n.natAbs,by omega⟩
  have hm:m<cs.length:=by omega
  have YK:=A6 A0 hm;have Zb:ZZ (m:Int) 0 ((cs.length-1:Nat):Int)=true:=by rw[show((cs.length-1:Nat):Int)=(cs.length:Int)-1 by omega];exact Z2
  refine Eh U<|Af (by kernel_rfl)<|Nv 1 U<|Ad U GM Eo U U U U (.inl U) U U<|Nv 2 U<|Ad U EC E9 U U U U (.inl U) U U<|Nv 1 U<|Nq (Aq (b:=1) U aP U U (by omega)) U<|Na (kC U (D1)) (.inl U) U<|Nq (kq U) U<|Ng U Zb (kq U)<|Ad U Ep En U U U U (AB U U U U Zb) U U ?_;iterate 3 refine Ng U Zb (kq U) ?_
  refine Ad U EC E9 U U U U (AB U U U U Zb) U U<|Ng U Zb (kq U)<|Ad U GM Eo U U U U (AB U U U U Zb) U U<|Ng U Zb (kv U YK) ?_;iterate 3 refine Ng U Zb (kq U) ?_
  refine Nq (oT U Zb U) U<|Nq (kq U) U<|CF.done<|Se (Er U ?_);refine Ab ?_;unfold cQ;rw[Z2,Ga hm];rfl
noncomputable def KC5:=CX KC4 275 (fun p:oX=>[CH p.1.1.1 p.1.1.2,.agg (Cf (.mk p.1.2.1 p.1.2.2.1 p.1.2.2.2))]) (fun p=> .bool (cQ p.1.1.1 p.1.2.2.1 (p.1.2.2.2.length:Nat)))
theorem Rq {cs fs:List Ci} {o n:Int} {ks:List Cc} (hc:cs.length<=4000) (hf:fs.length<=4000) (hk:ks.length<=4000):KC5 275 [CH cs fs,.agg (Cf (.mk o n ks))]=some (.bool (cQ cs n (ks.length:Nat))):=
 Aj (f:=275) (enc:=fun p:oX=>[CH p.1.1.1 p.1.1.2,.agg (Cf (.mk p.1.2.1 p.1.2.2.1 p.1.2.2.2))]) (res:=fun p=> .bool (cQ p.1.1.1 p.1.2.2.1 (p.1.2.2.2.length:Nat))) (by
  rintro⟨⟨⟨a,b⟩,⟨c,d,e⟩⟩,_⟩ ⟨⟨⟨a',b'⟩,⟨c',d',e'⟩⟩,_⟩ h;obtain⟨rfl,rfl,h⟩:=Hs h;cases h;rfl) ⟨((cs,fs),(o,n,ks)),hc,hf,hk⟩
theorem tfun_to (cs fs:List Ci) (o n:Int) (ks:List Cc) (hc:cs.length<=4000) (hf:fs.length<=4000):Cj (EK KC5) 276 [CH cs fs,.agg (Cf (.mk o n ks))] S0 (.bool (cQ fs n (ks.length:Nat))):=by
 have hlen:=BC (l:=ks);rw[AG];unfold CH;refine As U ?_;cases Z2:ZZ n 0 ((fs.length:Int)-1)with
 |false=>
  refine Eh U<|Af (by kernel_rfl)<|Nv 1 U<|Ad U GM Eo U U U U (.inl U) U U<|Nv 2 U<|Ad U EC E9 U U U U (.inl U) U U<|Nv 1 U<|Nq (Zm.sub U aP U U (by omega)) U ?_;refine Na (kC U (D1)) (.inl U) U<|Nq (kq U) U ?_;iterate 12 refine Nk U Z2 ?_
  refine Nq (oF U Z2 U) U<|Nq (kq U) U<|CF.done ?_;refine Se (Er U ?_);refine Ab ?_;unfold cQ;rw[Z2];rfl
 |true=>
  have hb:0<=n/\n<=(fs.length:Int)-1:=by
   unfold ZZ at Z2;rw[Qf]at Z2;exact⟨dT Z2.1,dT Z2.2⟩
  obtain⟨m,rfl⟩:∃m:Nat,n=(m:Int):=⟨n.natAbs,by omega⟩
  have hm:m<fs.length:=by omega
  have YK:=A6 A0 hm;have Zb:ZZ (m:Int) 0 ((fs.length-1:Nat):Int)=true:=by rw[show((fs.length-1:Nat):Int)=(fs.length:Int)-1 by omega];exact Z2
  refine Eh U<|Af (by kernel_rfl)<|Nv 1 U<|Ad U GM Eo U U U U (.inl U) U U<|Nv 2 U<|Ad U EC E9 U U U U (.inl U) U U<|Nv 1 U<|Nq (Aq (b:=1) U aP U U (by omega)) U<|Na (kC U (D1)) (.inl U) U<|Nq (kq U) U<|Ng U Zb (kq U)<|Ad U Ep En U U U U (AB U U U U Zb) U U ?_;iterate 3 refine Ng U Zb (kq U) ?_
  refine Ad U EC E9 U U U U (AB U U U U Zb) U U<|Ng U Zb (kq U)<|Ad U GM Eo U U U U (AB U U U U Zb) U U<|Ng U Zb (kv U YK) ?_;iterate 3 refine Ng U Zb (kq U) ?_
  refine Nq (oT U Zb U) U<|Nq (kq U) U<|CF.done<|Se (Er U ?_);refine Ab ?_;unfold cQ;rw[Z2,Ga hm];rfl
noncomputable def KC6:=CX KC5 276 (fun p:oX=>[CH p.1.1.1 p.1.1.2,.agg (Cf (.mk p.1.2.1 p.1.2.2.1 p.1.2.2.2))]) (fun p=> .bool (cQ p.1.1.2 p.1.2.2.1 (p.1.2.2.2.length:Nat)))
theorem Rp {cs fs:List Ci} {o n:Int} {ks:List Cc} (hc:cs.length<=4000) (hf:fs.length<=4000) (hk:ks.length<=4000):KC6 276 [CH cs fs,.agg (Cf (.mk o n ks))]=some (.bool (cQ fs n (ks.length:Nat))):=
 Aj (f:=276) (enc:=fun p:oX=>[CH p.1.1.1 p.1.1.2,.agg (Cf (.mk p.1.2.1 p.1.2.2.1 p.1.2.2.2))]) (res:=fun p=> .bool (cQ p.1.1.2 p.1.2.2.1 (p.1.2.2.2.length:Nat))) (by
  rintro⟨⟨⟨a,b⟩,⟨c,d,e⟩⟩,_⟩ ⟨⟨⟨a',b'⟩,⟨c',d',e'⟩⟩,_⟩ h;obtain⟨rfl,rfl,h⟩:=Hs h;cases h;rfl) ⟨((cs,fs),(o,n,ks)),hc,hf,hk⟩
theorem tpart_to (cs fs:List Ci) (o n:Int) (ks:List Cc) (hc:cs.length<=4000) (hf:fs.length<=4000):Cj (EK KC6) 277 [CH cs fs,.agg (Cf (.mk o n ks))] S0 (.bool (oH fs n (ks.length:Nat))):=by
 have hlen:=BC (l:=ks);rw[AG];unfold CH;refine As U ?_;cases Z2:ZZ n 0 ((fs.length:Int)-1)with
 |false=>
  refine Eh U<|Af (by kernel_rfl)<|Nv 1 U<|Ad U GM Eo U U U U (.inl U) U U<|Nv 2 U<|Ad U EC E9 U U U U (.inl U) U U<|Nv 1 U<|Nq (Zm.sub U aP U U (by omega)) U ?_;refine Na (kC U (D1)) (.inl U) U<|Nq (kq U) U ?_;iterate 12 refine Nk U Z2 ?_
  refine Nq (oF U Z2 U) U<|Nq (kq U) U<|CF.done ?_;refine Se (Er U ?_);refine Ab ?_;unfold oH;rw[Z2];rfl
 |true=>
  have hb:0<=n/\n<=(fs.length:Int)-1:=by
   unfold ZZ at Z2;rw[Qf]at Z2;exact⟨dT Z2.1,dT Z2.2⟩
  obtain⟨m,rfl⟩:∃m:Nat,n=(m:Int):=⟨n.natAbs,by omega⟩
  have hm:m<fs.length:=by omega
  have YK:=A6 A0 hm;have Zb:ZZ (m:Int) 0 ((fs.length-1:Nat):Int)=true:=by rw[show((fs.length-1:Nat):Int)=(fs.length:Int)-1 by omega];exact Z2
  refine Eh U<|Af (by kernel_rfl)<|Nv 1 U<|Ad U GM Eo U U U U (.inl U) U U<|Nv 2 U<|Ad U EC E9 U U U U (.inl U) U U<|Nv 1 U<|Nq (Aq (b:=1) U aP U U (by omega)) U<|Na (kC U (D1)) (.inl U) U<|Nq (kq U) U<|Ng U Zb (kq U)<|Ad U Ep En U U U U (AB U U U U Zb) U U ?_;iterate 3 refine Ng U Zb (kq U) ?_
  refine Ad U EC E9 U U U U (AB U U U U Zb) U U<|Ng U Zb (kq U)<|Ad U GM Eo U U U U (AB U U U U Zb) U U<|Ng U Zb (kv U YK) ?_;iterate 3 refine Ng U Zb (kq U) ?_
  refine Nq (oT U Zb U) U<|Nq (kq U) U<|CF.done<|Se (Er U ?_);refine Ab ?_;unfold oH;rw[Z2,Ga hm];rfl
noncomputable def KC7:=CX KC6 277 (fun p:oX=>[CH p.1.1.1 p.1.1.2,.agg (Cf (.mk p.1.2.1 p.1.2.2.1 p.1.2.2.2))]) (fun p=> .bool (oH p.1.1.2 p.1.2.2.1 (p.1.2.2.2.length:Nat)))
theorem Ro {cs fs:List Ci} {o n:Int} {ks:List Cc} (hc:cs.length<=4000) (hf:fs.length<=4000) (hk:ks.length<=4000):KC7 277 [CH cs fs,.agg (Cf (.mk o n ks))]=some (.bool (oH fs n (ks.length:Nat))):=
 Aj (f:=277) (enc:=fun p:oX=>[CH p.1.1.1 p.1.1.2,.agg (Cf (.mk p.1.2.1 p.1.2.2.1 p.1.2.2.2))]) (res:=fun p=> .bool (oH p.1.1.2 p.1.2.2.1 (p.1.2.2.2.length:Nat))) (by
  rintro⟨⟨⟨a,b⟩,⟨c,d,e⟩⟩,_⟩ ⟨⟨⟨a',b'⟩,⟨c',d',e'⟩⟩,_⟩ h;obtain⟨rfl,rfl,h⟩:=Hs h;cases h;rfl) ⟨((cs,fs),(o,n,ks)),hc,hf,hk⟩
theorem DW (p:oX):([CH p.1.1.1 p.1.1.2,.agg (Cf (.mk p.1.2.1 p.1.2.2.1 p.1.2.2.2))]:List AV).all (Cm 40)=true:=by
 show(Cm 40 (CH _ _)&&(Cm 40 (.agg (Cf _))&&true))=true;rw[AU];rfl
theorem tall7 (h:CM Tryz.prog 8 [] (.bool true)):Co Tryz.prog gn KC7:=by
 have a1:Co Tryz.prog gn KC1:=Al Aw Ag (tall4 h) (fun p:oX=>QE p.1.1.1 p.1.1.2 p.1.2.1 p.1.2.2.1 p.1.2.2.2) DW (fun _=>rfl);have a2:Co Tryz.prog gn KC2:=Al Aw Ag a1 (fun p:oX=>U4 p.1.1.1 p.1.1.2 p.1.2.1 p.1.2.2.1 p.1.2.2.2) DW (fun _=>rfl);have a3:Co Tryz.prog gn KC3:=Al Aw Ag a2 (fun p:oX=>let_to p.1.1.1 p.1.1.2 p.1.2.1 p.1.2.2.1 p.1.2.2.2) DW (fun _=>rfl);have a4:Co Tryz.prog gn KC4:=Al Aw Ag a3 (fun p:oX=>pair_to p.1.1.1 p.1.1.2 p.1.2.1 p.1.2.2.1 p.1.2.2.2) DW (fun _=>rfl);have a5:Co Tryz.prog gn KC5:=Al Aw Ag a4 (fun p:oX=>tcon_to p.1.1.1 p.1.1.2 p.1.2.1 p.1.2.2.1 p.1.2.2.2 p.2.1 p.2.2.1) DW (fun _=>rfl);have a6:Co Tryz.prog gn KC6:=Al Aw Ag a5 (fun p:oX=>tfun_to p.1.1.1 p.1.1.2 p.1.2.1 p.1.2.2.1 p.1.2.2.2 p.2.1 p.2.2.1) DW (fun _=>rfl);exact Al Aw Ag a6 (fun p:oX=>tpart_to p.1.1.1 p.1.1.2 p.1.2.1 p.1.2.2.1 p.1.2.2.2 p.2.1 p.2.2.1) DW (fun _=>rfl)
end Go.Proofs.YtfhimfcbphepeaaGreatDoor.Ty
open Go Am
namespace Go.Proofs.YtfhimfcbphepeaaGreatDoor.Ty
mutual
def mS:Cc->Nat
 | .mk _ _ ks=>jN ks+1
def jN:List Cc->Nat
 | []=>0
 |t::ts=>mS t+jN ts
end
mutual
theorem NX:∀(t:Cc) (l d:Int),(0<=YF t l d↔(mS t:Int)<=l/\(CL t:Int)<=d)/\(0<=YF t l d->YF t l d=l-mS t)
 | .mk o n ks,l,d=>by
  rw[YF,mS,CL];by_cases h:l<1\/d<1
  .grind
  .rw[if_neg h];obtain⟨h1,h2⟩:=L9 ks (l-1) (d-1) (by omega) (by omega);refine⟨h1.trans ⟨fun h=>⟨by omega,by omega⟩,fun h=>⟨by omega,by omega⟩⟩,fun h=>?_⟩;rw[h2 h];omega
theorem L9:∀(ts:List Cc) (l d:Int),0<=l->0<=d->(0<=Z3 ts l d↔(jN ts:Int)<=l/\(Yl ts:Int)<=d)/\(0<=Z3 ts l d->Z3 ts l d=l-jN ts)
 | [],l,d,hl,hd=>by grind [Z3,jN,Yl]
 |t::ts,l,d,hl,hd=>by
  rw[Z3,jN,Yl,if_pos hl];obtain⟨h1,h2⟩:=NX t l d;by_cases h:0<=YF t l d
  .obtain⟨h3,h4⟩:=L9 ts (YF t l d) d h hd;have h5:=h2 h;have h6:=h1.1 h;refine⟨h3.trans ⟨fun h=>⟨by omega,by omega⟩,fun h=>⟨by omega,by omega⟩⟩,fun h=>?_⟩;rw[h4 h,h5];omega
  .grind [Js,mS,CL]
end
def C7:Cc->Nat->List (Cc×Nat)
 | .mk o n ks,d=>(.mk o n ks,d)::go ks (d+1)
where go:List Cc->Nat->List (Cc×Nat)
 | [],_=>[]
 |t::ts,d=>C7 t d++go ts d
def ue (cs fs:List Ci) (o n k:Int):Bool:=ZZ o 1 15&&(if o=1 then ub n k else if o=2 then uc n k else if o=3 then cQ cs n k else if o=4 then cQ fs n k else if o=5 then oH fs n k else if o=8 then ud n k else oG n k)
theorem chk_node (cs fs:List Ci) (o n k:Int):ue cs fs o n k=YJ cs fs o n k:=by
 unfold ue YJ;by_cases e1:o=1
 .subst e1;rw[if_pos rfl,if_pos rfl];unfold ub;rw[show ZZ 1 1 15=true from rfl,Bool.true_and,Bool.and_comm]
 rw[if_neg e1,if_neg e1];by_cases e2:o=2
 .subst e2;rw[if_pos rfl,if_pos rfl];unfold uc;rw[show ZZ 2 1 15=true from rfl,Bool.true_and,Bool.and_comm]
 rw[if_neg e2,if_neg e2];by_cases e3:o=3
 .subst e3;rw[if_pos rfl,if_pos rfl];unfold cQ;rw[show ZZ 3 1 15=true from rfl,Bool.true_and]
 rw[if_neg e3,if_neg e3];by_cases e4:o=4
 .subst e4;rw[if_pos rfl,if_pos rfl];unfold cQ;rw[show ZZ 4 1 15=true from rfl,Bool.true_and]
 rw[if_neg e4,if_neg e4];by_cases e5:o=5
 .subst e5;rw[if_pos rfl,if_pos rfl];unfold oH;rw[show ZZ 5 1 15=true from rfl,Bool.true_and]
 rw[if_neg e5,if_neg e5];by_cases e8:o=8
 .subst e8;rw[if_pos rfl,if_pos rfl];unfold ud;rw[show ZZ 8 1 15=true from rfl,Bool.true_and,Bool.and_comm]
 rw[if_neg e8,if_neg e8];unfold oG ZZ;by_cases h:6<=o/\o<=15
 .grind
 .grind
def kR (cs fs:List Ci) (i:Nat) (x:Cc×Nat):Bool:=decide (i+1<=40)&&decide (x.2<=12)&&ue cs fs x.1.op x.1.n (x.1.u.length:Nat)
def jh (cs fs:List Ci):Nat->List (Cc×Nat)->Bool
 |_,[]=>true
 |i,x::xs=>kR cs fs i x&&jh cs fs (i+1) xs
theorem Ss {cs fs:List Ci}:∀ {xs:List (Cc×Nat)} {i:Nat},jh cs fs i xs=true↔(xs=[]\/i+xs.length<=40)/\(∀x∈xs,x.2<=12)/\∀x∈xs,ue cs fs x.1.op x.1.n (x.1.u.length:Nat)=true
 | [],i=>⟨fun _=>⟨.inl rfl,(fun _ h=>by cases h),fun _ h=>by cases h⟩,fun _=>rfl⟩
 |x::xs,i=>by
  rw[jh,Qf,Ss (xs:=xs) (i:=i+1)];unfold kR;rw[Qf,Qf,decide_eq_true_iff,decide_eq_true_iff,List.length_cons];constructor
  .grind
  .grind
mutual
theorem OT:∀(t:Cc) (d:Nat),(C7 t d).length=mS t
 | .mk o n ks,d=>by rw[C7,List.length_cons,Xd ks,mS]
theorem Xd:∀(ts:List Cc) (d:Nat),(C7.go ts d).length=jN ts
 | [],_=>rfl
 |t::ts,d=>by rw[C7.go,Qm,OT t,Xd ts,jN]
end
mutual
theorem Im:∀(t:Cc) (d m:Nat),(∀x∈C7 t d,x.2<=m)↔d+CL t<=m+1
 | .mk o n ks,d,m=>by
  rw[C7,CL,List.forall_mem_cons,Td ks (d+1) m];constructor
  .grind [Yl]
  .grind
theorem Td:∀(ts:List Cc) (d m:Nat),(∀x∈C7.go ts d,x.2<=m)↔(ts=[]\/d+Yl ts<=m+1)
 | [],_,_=>⟨fun _=> .inl rfl,fun _ _ h=>by cases h⟩
 |t::ts,d,m=>by
  rw[C7.go,List.forall_mem_append,Im t d m,Td ts d m,Yl];have:=Fy t;constructor
  .grind [Yl]
  .grind
end
mutual
theorem OU {cs fs:List Ci}:∀(t:Cc) (d:Nat),(∀x∈C7 t d,ue cs fs x.1.op x.1.n (x.1.u.length:Nat)=true)↔ZD cs fs t=true
 | .mk o n ks,d=>by
  rw[C7,ZD,List.forall_mem_cons,Xg ks (d+1),Qf,<-chk_node];rfl
theorem Xg {cs fs:List Ci}:∀(ts:List Cc) (d:Nat),(∀x∈C7.go ts d,ue cs fs x.1.op x.1.n (x.1.u.length:Nat)=true)↔cp cs fs ts=true
 | [],_=>⟨fun _=>rfl,fun _ _ h=>by cases h⟩
 |t::ts,d=>by
  rw[C7.go,cp,List.forall_mem_append,OU t d,Xg ts d,Qf]
end
theorem Oq (cs fs:List Ci) (t:Cc):jh cs fs 0 (C7 t 1)=CQ cs fs t:=by
 have h1:=Ss (cs:=cs) (fs:=fs) (xs:=C7 t 1) (i:=0);rw[OT,Im,OU]at h1;have h2:CQ cs fs t=true↔((mS t:Int)<=40/\(CL t:Int)<=12)/\ZD cs fs t=true:=by simp_all [Qf,CQ,mS,CL,NX]
 have ZT:C7 t 1≠ []:=by cases t;rw[C7];exact List.cons_ne_nil _ _
 have:jh cs fs 0 (C7 t 1)=true↔CQ cs fs t=true:=by grind
 cases h3:jh cs fs 0 (C7 t 1)<;>cases h4:CQ cs fs t<;>rw[h3,h4]at this<;>simp_all
end Go.Proofs.YtfhimfcbphepeaaGreatDoor.Ty
open Go Am
namespace Go.Proofs.YtfhimfcbphepeaaGreatDoor.Ty
structure Copied (st s1 s2:St) (z cs:List AV) (T:TypeId):Prop where
 b:s1.heap.u st.a=some (.J z T false)
 d:s2.heap.u st.a=some (.J cs T false)
 old1:∀c,c<st.a->s1.heap.u c=st.heap.u c
 e:∀c,c<st.a->s2.heap.u c=st.heap.u c
 a:s2.b=st.b
 g:st.b<=st.a->s2.c=st.c
 f:s2.a=st.a+1
theorem FY {st:St} {z cs:List AV} {T:TypeId}:Copied st (st.A (.J z T false)) ((st.A (.J z T false)).B st.a (some (.J cs T false))) z cs T:=
 ⟨A1,by rw[AF,if_pos rfl],fun _ h=>Au h,fun c h=>by rw[AF,if_neg (Nat.ne_of_lt h),Au h],rfl,fun h=>by
  show(bif Nat.blt st.a st.b then _ else st.c)=st.c;cases hb:Nat.blt st.a st.b with
  |false=>rfl
  |true=>
   have:st.a<st.b:=Qc hb;omega,rfl⟩
variable {K : FuncId -> List AV -> Option AV}
def uf (f:FuncId):Bool:=Nat.beq f 265||Nat.beq f 266||Nat.beq f 267||Nat.beq f 187
structure VisH (K:FuncId->List AV->Option AV) (b base:Nat) (L:List (Cc×Nat)) (C:Nat->Nat->Tr Cv->Prop) (D:Nat->Tr Cv->Prop):Prop where
 mono:∀ {j n h n' h'},C j n h->n<=n'->(∀d,d<n->h'.u d=h.u d)->C j n' h'
 e:∀ {n h n' h'},D n h->n<=n'->(∀d,d<n->h'.u d=h.u d)->D n' h'
 g:∀j (hj:j<L.length) (st:St),base<=st.b->st.b<=st.a->C j st.a st.heap->kD (EK K) b [.agg (Cf L[j].1),.int .i64 (L[j].2:Nat)] st fun v s'=>st.a<=s'.a/\s'.b=st.b/\b∈s'.c/\(∀d∈s'.c,d∈st.c\/d<st.b)/\
  (∀d,base<=d->d<st.a->s'.heap.u d=st.heap.u d)/\(v=true->C (j+1) s'.a s'.heap)/\(v=false->D s'.a s'.heap)
 c:∀ {j n h} (hj:j<L.length),C (j+1) n h->L[j].2<=4000
 a:b<base
 none:∀f args,uf f=true->K f args=none
def qQ (b base:Nat) (s:St) (j m:Nat) (C:Nat->Nat->Tr Cv->Prop) (D:Nat->Tr Cv->Prop) (v:AV) (s3:St):Prop:=
 s3.b=s.b/\s.a<=s3.a/\((∀d∈s3.c,d∈s.c\/d<s.b)/\∀d∈s.c,d∈s3.c)/\(∀d,base<=d->d<s.a->s3.heap.u d=s.heap.u d)/\(b<s.b->m≠0->b∈s3.c)/\∃r,v= .bool r/\(r=true->C (j+m) s3.a s3.heap)/\(r=false->D s3.a s3.heap)
def At (L:List (Cc×Nat)) (j:Nat) (M:List (Cc×Nat)):Prop:=j+M.length<=L.length/\∀i (hi:i<M.length),L[j+i]?=some M[i]
theorem At.app {L A B:List (Cc×Nat)} {j:Nat} (h:At L j (A++B)):At L j A/\At L (j+A.length) B:=by
 obtain⟨h1,h2⟩:=h;rw[Qm]at h1;refine⟨⟨by omega,fun i hi=>?_⟩,by omega,fun i hi=>?_⟩
 .rw[h2 i (by rw[Qm];omega),List.getElem_append_left]
 .rw[Nat.add_assoc,h2 (A.length+i) (by rw[Qm];omega),List.getElem_append_right (by omega)];simp
theorem At.cons {L M:List (Cc×Nat)} {x:Cc×Nat} {j:Nat} (h:At L j (x::M)):(∃hj:j<L.length,L[j]=x)/\At L (j+1) M:=by
 have h2:=At.app (A:=[x]) (B:=M) h;refine⟨?_,h2.2⟩;have h3:=h2.1.2 0 (Nat.zero_lt_one);have h4:j<L.length:=h2.1.1;refine⟨h4,?_⟩;rw[Nat.add_zero,Qi h4]at h3;exact Option.some.inj h3
section
variable {b base : Nat} {L : List (Cc × Nat)} {C : Nat -> Nat -> Tr Cv -> Prop} {D : Nat -> Tr Cv -> Prop}
theorem Hh {f:FuncId} {fn:Func} {c:Code} {args:List AV} {s:St} {R:AV->St->Prop} {rs:List ResultVar} {fr:Fr} {l0:Sl} (hm:K f args=none) (hz:(EK K).e f=1) (hf:(EK K).a.u f=some fn) (hc:fn.body=some c) (hr:fn.results.toList=rs)
 (cI:frame fn.ntmps args none=fr) (hl:bV 0 args []=l0) (h:CA (EK K) c fr l0 s.u fun ex fr l st=>(ex= .Z\/ex= .J)/\fr.defers=[]/\∃r,CO (EK K) st l rs=some [.bool r]/\(st.c=[]->R (.bool r) s)/\R (.bool r) (s.M st)):CD (EK K) f args s R:=by
 refine CD.gen hm hf hc hr cI hl (h.mono fun ex fr l st ⟨h1,h2,r,h3,h4,h5⟩=>⟨h1,st,by rw[h2];rfl,[.bool r],h3,?_⟩);exact AQ hz (fun _ _=>rfl) (fun _=>rfl) h4 fun _=>h5
theorem HS {n:Nat} {l:List Nat} {d:Nat} (h:d∈l):∀M,d∈below n M l
 | []=>h
 |b::M=>by
  unfold below;cases Nat.blt b n with
  |true=>exact Qg _ (HS h M)
  |false=>exact HS h M
theorem qQ.fin {s st:St} {j m:Nat} {r:Bool} (hn:s.a<=st.a) (cI:∀d,base<=d->d<s.a->st.heap.u d=s.heap.u d) (hb:m≠0->b∈st.c) (hC:r=true->C (j+m) st.a st.heap) (hD:r=false->D st.a st.heap):qQ b base s j m C D (.bool r) (s.M st):=
 ⟨rfl,hn,⟨fun d hd=>by
  rcases DB hd with h|⟨_,h⟩
  .exact .inl h
  .exact .inr h,fun d hd=>HS hd _⟩,cI,fun C8 hm=>E1 (hb hm) C8,r,rfl,hC,hD⟩
def visV (CZ bv:Nat):AV:= .G' (.func 266) [] [.Z CZ 0,.Z bv 0]
structure oY (b base CZ bv:Nat) (s:St):Prop where
 a:base<=s.b
 c:s.b<=s.a
 y:base<=CZ/\CZ<s.a
 v:base<=bv/\bv<s.a
 d:s.heap.u CZ=some (.J [.G' (.yield b) [] []] 247 false)
 e:s.heap.u bv=some (.J [visV CZ bv] 247 false)
theorem oY.u {CZ bv:Nat} {s:St} (h:oY b base CZ bv s):oY b base CZ bv s.u:=⟨Nat.le_trans h.a h.c,Qj _,h.y,h.v,h.d,h.e⟩
theorem oY.A {CZ bv:Nat} {s s':St} (h:oY b base CZ bv s) (hb:s'.b=s.b) (hn:s.a<=s'.a) (hf:∀d,base<=d->d<s.a->s'.heap.u d=s.heap.u d):oY b base CZ bv s':=
 ⟨by rw[hb];exact h.a,by rw[hb];exact Nat.le_trans h.c hn,⟨h.y.1,Nat.lt_of_lt_of_le h.y.2 hn⟩,⟨h.v.1,Nat.lt_of_lt_of_le h.v.2 hn⟩,(hf _ h.y.1 h.y.2).trans h.d,(hf _ h.v.1 h.v.2).trans h.e⟩
def VisD (K:FuncId->List AV->Option AV) (b base CZ bv:Nat) (L:List (Cc×Nat)) (C:Nat->Nat->Tr Cv->Prop) (D:Nat->Tr Cv->Prop) (d:Nat):Prop:=
 ∀(t:Cc) (j dep:Nat) (s:St),CL t<=d->YN t->At L j (C7 t dep)->oY b base CZ bv s->C j s.a s.heap->CD (EK K) 266 [.agg (Cf t),.int .i64 (dep:Nat),.Z CZ 0,.Z bv 0] s (qQ b base s j (C7 t dep).length C D)
theorem JP (t:Cc) (d:Nat):0<(C7 t d).length:=by cases t;exact Nat.succ_pos _
theorem XM (H:VisH K b base L C D) {CZ bv bd d:Nat} (hV:VisD K b base CZ bv L C D d) {t:Cc} {j dep:Nat} {s:St} (ht:CL t<=d) (hs:YN t) (hA:At L j (C7 t (dep+1))) (hB:oY b base CZ bv s) (hC:C j s.a s.heap) (tJ:dep<=4000)
 (aO:base<=bd/\bd<s.a) (gd:s.heap.u bd=some (.J [.int .i64 (dep:Nat)] 3 false)):CD (EK K) 267 [.agg (Cf t),.Z bv 0,.Z bd 0] s (qQ b base s j (C7 t (dep+1)).length C D):=by
 refine Hh (fn:=Tryz.f267) (H.none _ _ U) U U U U U U ?_;have e0:=Ak t;rw[e0];have g1:(s.u.A (.J [.int .i64 t.op,.int .i64 t.n,Cs t.u] 47 false)).heap.u bv=some (.J [.G' (.func 266) [] [.Z CZ 0,.Z bv 0]] 247 false):=(Au hB.v.2).trans hB.e;have g2:(s.u.A (.J [.int .i64 t.op,.int .i64 t.n,Cs t.u] 47 false)).heap.u bd=some (.J [.int .i64 (dep:Nat)] 3 false):=(Au aO.2).trans gd;have g3:(s.u.A (.J [.int .i64 t.op,.int .i64 t.n,Cs t.u] 47 false)).heap.u s.a=some (.J [.int .i64 t.op,.int .i64 t.n,Cs t.u] 47 false):=A1;have hB2:oY b base CZ bv (s.u.A (.J [.int .i64 t.op,.int .i64 t.n,Cs t.u] 47 false)):=hB.u.A rfl (Nat.le_succ _) fun d _ hd=>Au hd
 have hC2:=H.mono hC (Nat.le_succ s.a) (h':=(s.u.A (.J [.int .i64 t.op,.int .i64 t.n,Cs t.u] 47 false)).heap) fun d hd=>Au hd;have hr:=hV t j (dep+1) _ ht hs hA hB2 hC2;rw[e0]at hr;refine Es<|Lo (ZU.box U U U) U<|Lw U<|Es<|Lo (kl U g1 U) U<|Lo (kL U g3 U) U<|Lo (kl U g2 U) U<|Lq (ka (b:=1) U (by omega)) U<|BN U U U U U U U U U (CD.mono hr ?_);rintro v s' ⟨e1,e2,e3,e4,e5,r,rfl,e6,e7⟩;have e2':s.a+1<=s'.a:=e2;have mI:b<s.a:=Nat.lt_of_lt_of_le H.a (Nat.le_trans hB.a hB.c);have CU:=e5 mI (Nat.ne_of_gt (JP ..));refine Lw U<|Se ?_;exact⟨.inl U,rfl,r,Aa U U,fun h=>absurd h (List.ne_nil_of_mem CU),qQ.fin (by omega) (fun c h1 h2=>(e4 c h1 (Nat.lt_succ_of_lt h2)).trans (Au h2)) (fun _=>CU) e6 e7⟩
theorem Xf (a b:List Cc) (d:Nat):C7.go (a++b) d=C7.go a d++C7.go b d:=by
 induction a with
 |nil=>rfl
 |cons t a ih=>rw[List.cons_append,C7.go,C7.go,ih,List.append_assoc]
theorem goL_at {ks:List Cc} {i d:Nat} (h:i<ks.length):C7.go ks d=C7.go (ks.take i) d++(C7 ks[i] d++C7.go (ks.drop (i+1)) d):=by
 conv=>lhs;rw[<-List.take_append_drop i ks,List.drop_eq_getElem_cons h]
 rw[Xf,C7.go]
theorem goL_take {ks:List Cc} {i d:Nat} (h:i<ks.length):(C7.go (ks.take (i+1)) d).length=(C7.go (ks.take i) d).length+(C7 ks[i] d).length:=by
 rw[List.take_add_one,Qi h,Option.toList_some,Xf,Qm,C7.go,C7.go,List.append_nil]
theorem kids_run (H:VisH K b base L C D) {CZ bv bd d:Nat} (hV:VisD K b base CZ bv L C D d) {ks:List Cc} {j dep:Nat} {s:St} (hd:∀t∈ks,CL t<=d) (hs:∀t∈ks,YN t) (hk:ks.length<=4000) (hA:At L j (C7.go ks (dep+1))) (hB:oY b base CZ bv s) (hC:C j s.a s.heap) (tJ:dep<=4000)
 (aO:base<=bd/\bd<s.a) (gd:s.heap.u bd=some (.J [.int .i64 (dep:Nat)] 3 false)):CD (EK K) 187 [Cs ks,.G' (.func 267) [] [.Z bv 0,.Z bd 0]] s (qQ b base s j (C7.go ks (dep+1)).length C D):=by
 refine Hh (fn:=Tryz.f187) (H.none _ _ U) U U U U U U ?_;have hlen:=BC (l:=ks);have mI:b<s.a:=Nat.lt_of_lt_of_le H.a (Nat.le_trans hB.a hB.c);refine Ew U<|Sq<|Ew U<|Sb<|Ai (fun y:Nat×St=>([(9,.int .i64 (y.1:Nat)),(8,.int .i64 (ks.length:Nat)),(7,Cs ks),(1,.G' (.func 267) [] [.Z bv 0,.Z bd 0])],y.2)) (fun y=>ks.length-y.1)
  (fun y=>y.1<=ks.length/\y.2.b=s.a/\s.a<=y.2.a/\(∀d,base<=d->d<s.a->y.2.heap.u d=s.heap.u d)/\(y.1≠0->b∈y.2.c)/\C (j+(C7.go (ks.take y.1) (dep+1)).length) y.2.a y.2.heap)
  (0,s.u) ⟨Qo _,rfl,Qj _,fun _ _ _=>rfl,fun h=>absurd rfl h,hC⟩ rfl (Ac (by trivial)) ?_
 rintro⟨i,st⟩ ⟨hi,wH,fB,cI,Z9,hCi⟩;dsimp only at hi wH fB cI Z9 hCi|-;by_cases h:i<ks.length
 .have YK:=BD h;have e0:=Ak ks[i];rw[e0]at YK;obtain⟨a1,a2,a3,a4,a5,a6,a7⟩:=FY (st:=st) (z:=[.int .i64 0,.int .i64 0,.Ca]) (cs:=[.int .i64 ks[i].op,.int .i64 ks[i].n,Cs ks[i].u]) (T:=47);have a8:=a6 (by rw[wH];exact fB);focus
   refine Ew U<|Sq<|Cd U (fun h1=>?_) (fun h1=>?_);refine Sk<|Sq<|Sb<|Es<|Lq (kv U YK) U<|Lv 1 U<|Lo (kz U) U<|Ln (kw U a1 U) U<|Ld<|Es<|qm U<|Lo (kL U a2 U) U ?_;rotate_left;omega
  have hBi:oY b base CZ bv ((st.A (.J [.int .i64 0,.int .i64 0,.Ca] 47 false)).B st.a (some (.J [.int .i64 ks[i].op,.int .i64 ks[i].n,Cs ks[i].u] 47 false))):=hB.u.A (a5.trans wH) (by rw[a7];exact Nat.le_succ_of_le fB) fun c h1 h2=>(a4 c (Nat.lt_of_lt_of_le h2 fB)).trans (cI c h1 h2);have hCj:=H.mono hCi (by rw[a7];exact Nat.le_succ _:st.a<=((st.A (.J [.int .i64 0,.int .i64 0,.Ca] 47 false)).B st.a (some (.J [.int .i64 ks[i].op,.int .i64 ks[i].n,Cs ks[i].u] 47 false))).a) a4;have hAi:=hA;rw[goL_at h]at hAi
  have hr:=XM H hV (s:=((st.A (.J [.int .i64 0,.int .i64 0,.Ca] 47 false)).B st.a (some (.J [.int .i64 ks[i].op,.int .i64 ks[i].n,Cs ks[i].u] 47 false)))) (bd:=bd) (hd _ (Ql h)) (hs _ (Ql h)) hAi.app.2.app.1 hBi hCj tJ ⟨aO.1,by rw[a7];omega⟩ ((a4 bd (by omega)).trans ((cI bd aO.1 aO.2).trans gd));rw[e0]at hr;refine BN U U U U U U U U U (CD.mono hr ?_);rintro v s' ⟨e1,e2,e3,e4,e5,r,rfl,e6,e7⟩;rw[a5,wH]at e1 e5;rw[a7]at e2;have CU:=e5 mI (Nat.ne_of_gt (JP ..));have hfr2:∀d,base<=d->d<s.a->s'.heap.u d=s.heap.u d:=fun c h1 h2=>(e4 c h1 (by rw[a7];omega)).trans ((a4 c (by omega)).trans (cI c h1 h2));cases r with
  |true=>
   refine Lw U<|Tf U<|Sk<|Sr<|Lq (ka (b:=1) U (by omega)) U<|Lw U ?_;refine⟨(i+1,s'),⟨h,e1,by show s.a<=s'.a;omega,hfr2,fun _=>CU,?_⟩,by show ks.length-(i+1)<ks.length-i;omega,rfl,rfl,Ac (by trivial)⟩;rw[goL_take h,<-Nat.add_assoc];exact e6 U
  |false=>
   refine Lw U<|Tt U<|Ew U<|Se ?_;exact⟨.inl U,rfl,false,Aa U U,fun h=>absurd h (List.ne_nil_of_mem CU),qQ.fin (by omega) hfr2 (fun _=>CU) (fun h=>by cases h) e7⟩
 .obtain rfl:i=ks.length:=by omega
  rw[List.take_length]at hCi;focus
   refine Ew U<|Sq<|Cd U (fun h1=>?_) (fun h1=>?_);omega;refine Sx<|Ax U<|Ew U ?_;rotate_left
  refine Se ?_;refine⟨.inl U,rfl,true,Aa U U,fun h=>?_,qQ.fin fB cI (fun hm=>Z9 fun h0=>hm ?_) (fun _=>hCi) fun h=>by cases h⟩
  .have h0:ks.length=0:=Decidable.byContradiction fun hn=>List.ne_nil_of_mem (Z9 hn) h;obtain rfl:=List.length_eq_zero_iff.1 h0;exact⟨rfl,Qj _,⟨fun d hd=> .inl hd,fun d hd=>hd⟩,fun _ _ _=>rfl,fun _ hm=>absurd U hm,true,rfl,fun _=>hC,fun h=>by cases h⟩
  .obtain rfl:=List.length_eq_zero_iff.1 h0;rfl
theorem Vl (H:VisH K b base L C D) {CZ bv:Nat}:∀d,VisD K b base CZ bv L C D d:=by
 intro d;induction d with
 |zero=>intro t j dep s ht;rw[Fy]at ht;omega
 |succ d ih=>
  intro t j dep s ht hs hA hB hC;obtain⟨o,n,ks⟩:=t;cases hs with
  |mk hk u4=>
  have mI:b<s.a:=Nat.lt_of_lt_of_le H.a (Nat.le_trans hB.a hB.c);have iO:base<=s.a:=Nat.le_trans hB.a hB.c;have lh:∀t∈ks,CL t<=d:=fun t h=>by have:=Bg h;have:Yl ks+1<=d+1:=ht;omega
  have hAc:=hA;rw[C7]at hAc;obtain⟨⟨hj,hLj⟩,hA2⟩:=hAc.cons;refine Hh (fn:=Tryz.f266) (H.none _ _ U) U U U U U U ?_;obtain⟨sB,bL⟩:∃x,x=(s.u.A (.J [.int .i64 o,.int .i64 n,Cs ks] 47 false)).A (.J [.int .i64 (dep:Nat)] 3 false):=⟨_,rfl⟩
  have nB:sB.a=s.a+2:=by rw[bL];rfl
  have bB:sB.b=s.a:=by rw[bL];rfl
  have oB:∀d,d<s.a->sB.heap.u d=s.heap.u d:=fun d hd=>by rw[bL];exact(Au (Nat.lt_succ_of_lt hd)).trans (Au hd)
  have g0:sB.heap.u s.a=some (.J [.int .i64 o,.int .i64 n,Cs ks] 47 false):=by rw[bL];exact(Au (Nat.lt_succ_self _)).trans A1
  have g1:sB.heap.u (s.a+1)=some (.J [.int .i64 (dep:Nat)] 3 false):=by rw[bL];exact A1
  have gy:sB.heap.u CZ=some (.J [.G' (.yield b) [] []] 247 false):=(oB _ hB.y.2).trans hB.d;have hy:=H.g j hj sB (by omega) (by omega) (H.mono hC (by omega) oB);rw[hLj]at hy;rw[AG]at hy|-;refine Es ?_;iterate 2 refine Lo (ZU.box U U U) U ?_
  refine Lw U<|Es ?_;show CC _ _ _ _ _ _ ((s.u.A (.J [.int .i64 o,.int .i64 n,Cs ks] 47 false)).A (.J [.int .i64 (dep:Nat)] 3 false)) _;rw[<-bL];refine Lo (kl U gy U) U<|Lo (kL U g0 U) U<|Lo (kl U g1 U) U<|KY U U U U U U U hy ?_;rintro v s' ⟨y1,y2,y3,y4,y5,y6,y7⟩;have f0:∀d,base<=d->d<s.a->s'.heap.u d=s.heap.u d:=fun d h1 h2=>(y5 d h1 (by omega)).trans (oB d h2);have g0':=(y5 s.a iO (by omega)).trans g0;have g1':=(y5 (s.a+1) (by omega) (by omega)).trans g1;cases v with
  |false=>
   refine Lw U<|Se ?_;exact⟨.inl U,rfl,false,Aa U U,fun h=>absurd h (List.ne_nil_of_mem y3),qQ.fin (by omega) f0 (fun _=>y3) (fun h=>by cases h) y7⟩
  |true=>
   have hr:=kids_run H ih (s:=s') (j:=j+1) (dep:=dep) (bd:=s.a+1) (CZ:=CZ) (bv:=bv) lh u4 hk hA2 (hB.u.A (y2.trans bB) (show s.a<=s'.a by omega) f0) (y6 rfl) (by have:=H.c hj (y6 rfl);rw[hLj]at this;exact this) ⟨by omega,by omega⟩ g1';refine Lv 2 U<|Lg U U (kl U g0' U)<|Lv 1 U<|Ge U U U U U<|kf U (CD.mono hr ?_);rintro w s3 ⟨e1,e2,e3,e4,e5,r,rfl,e6,e7⟩;refine Lw U<|Se ?_;have CU:b∈s3.c:=e3.2 b y3;refine⟨.inl U,rfl,r,Aa U U,fun h=>absurd h (List.ne_nil_of_mem CU),qQ.fin (by omega) (fun c h1 h2=>(e4 c h1 (by omega)).trans (f0 c h1 h2)) (fun _=>CU) (fun h=>?_) e7⟩;rw[C7,List.length_cons,Nat.add_comm _ 1,<-Nat.add_assoc];exact e6 h
end
end Go.Proofs.YtfhimfcbphepeaaGreatDoor.Ty
open Go Am
namespace Go.Proofs.YtfhimfcbphepeaaGreatDoor.Ty
section
variable {K : FuncId -> List AV -> Option AV} {b : Nat} {L : List (Cc × Nat)} {C : Nat -> Nat -> Tr Cv -> Prop} {D : Nat -> Tr Cv -> Prop}
def AllN (s:St) (L:List (Cc×Nat)) (C:Nat->Nat->Tr Cv->Prop) (D:Nat->Tr Cv->Prop):AV->St->Prop:=fun _ s3=>s3.b=s.b/\s.a<=s3.a/\(∀d∈s3.c,d∈s.c\/d<s.b)/\(C L.length s3.a s3.heap\/D s3.a s3.heap)
theorem OS {s:St} {bt:Nat} {t:Cc} (H:VisH K b s.a (C7 t 1) C D) (hs:YN t) (hC:C 0 s.a s.heap) (hbt:bt<s.a) (gt:s.heap.u bt=some (.J (Cf t) 47 false)):
 CD (EK K) 265 [.G' (.yield b) [] [],.Z bt 0] s (AllN s (C7 t 1) C D):=by
 refine CD.unit (fn:=Tryz.f265) (H.none _ _ U) U U U U U ?_;obtain⟨sB,bL⟩:∃x,x=s.u.A (.J [.G' (.yield b) [] []] 247 false):=⟨_,rfl⟩
 have nB:sB.a=s.a+1:=by rw[bL];rfl
 have bB:sB.b=s.a:=by rw[bL];rfl
 have oB:∀d,d<s.a->sB.heap.u d=s.heap.u d:=fun d hd=>by rw[bL];exact Au hd
 have g0:sB.heap.u s.a=some (.J [.G' (.yield b) [] []] 247 false):=by rw[bL];exact A1
 obtain⟨a1,a2,a3,a4,a5,a6,a7⟩:=FY (st:=sB) (z:=[.Cz]) (cs:=[.G' (.func 266) [] [.Z s.a 0,.Z sB.a 0]]) (T:=247);have e0:=Ak t;rw[e0]at gt;refine Es<|Lo (ZU.box U U U) U<|Ld ?_;show CA _ _ _ _ (s.u.A (.J [.G' (.yield b) [] []] 247 false)) _;rw[<-bL];have gt2:=(a4 bt (by omega)).trans ((oB bt hbt).trans gt);have hB:oY b s.a s.a sB.a ((sB.A (.J [.Cz] 247 false)).B sB.a (some (.J [.G' (.func 266) [] [.Z s.a 0,.Z sB.a 0]] 247 false))):=
  ⟨by rw[a5];omega,by rw[a5,a7];omega,⟨Qj _,by rw[a7];omega⟩,⟨by omega,by rw[a7];omega⟩,(a4 s.a (by omega)).trans g0,a2⟩
 have hC2:=H.mono hC (show s.a<=((sB.A (.J [.Cz] 247 false)).B sB.a (some (.J [.G' (.func 266) [] [.Z s.a 0,.Z sB.a 0]] 247 false))).a by rw[a7];omega) fun d hd=>(a4 d (by omega)).trans (oB d hd);have hr:=Vl H (CL t) t 0 1 _ (Qj _) hs ⟨by rw[Nat.zero_add];exact Qj _,fun i hi=>by rw[Nat.zero_add];exact Qi hi⟩ hB hC2;rw[e0]at hr;refine Es<|Lo (kz U) U<|Ld<|Es<|Lv 1 U<|Ln (kw U a1 U) U<|Ld<|Sr<|Lo (kl U a2 U) U<|Lo (kL U gt2 U) U<|BN U U U U U U U U U (CD.mono hr ?_);rintro v s' ⟨e1,e2,e3,e4,e5,r,rfl,e6,e7⟩;rw[a5,bB]at e1 e5;rw[a7]at e2;have CU:=e5 H.a (Nat.ne_of_gt (JP ..));refine Ld ?_;refine⟨.inr U,rfl,fun h=>absurd h (List.ne_nil_of_mem CU),rfl,by show s.a<=s'.a;omega,fun d hd=>?_,?_⟩
 .rcases DB hd with h|⟨_,h⟩
  .exact .inl h
  .exact .inr h
 .rw[Nat.zero_add]at e6;cases r with
  |true=>exact .inl (e6 rfl)
  |false=>exact .inr (e7 rfl)
end
end Go.Proofs.YtfhimfcbphepeaaGreatDoor.Ty
open Go Am
namespace Am
theorem AJ {E:a_} {a:Code} {fr:Fr} {l:Sl} {s:St} {Q:Ex->Fr->Sl->St->Prop} (h:∀s',s'=s->CA E a fr l s' Q):CA E a fr l s Q:=h s rfl
end Am
namespace Go.Proofs.YtfhimfcbphepeaaGreatDoor.Ty
def xk (nt:Nat) (T:Tr AV) (ps:List Nat) (a b:Code):dc:= {a:= .ready,b:=none,fn:=0,nt,c:=T,params:=ps,assign:=a,body:=b}
theorem MW {s:St} {nt:Nat} {T:Tr AV} {ps:List Nat} {a b:Code}:(aR s nt T ps a b).heap.u (s.a+1)=some (.Z (xk nt T ps a b)):=A1
theorem MX {s:St} {nt:Nat} {T:Tr AV} {ps:List Nat} {a b:Code}:(aR s nt T ps a b).heap.u s.a=some (.G' true):=(Au (Nat.lt_succ_self _)).trans A1
theorem AZ {s:St} {nt:Nat} {T:Tr AV} {ps:List Nat} {a b:Code} {d:Nat} (h:d<s.a):(aR s nt T ps a b).heap.u d=s.heap.u d:=(Au (Nat.lt_succ_of_lt h)).trans (Au h)
def tabT:List AV:=[.Cz,.G' (.func 273) [] [],.G' (.func 274) [] [],.G' (.func 275) [] [],.G' (.func 276) [] [],.G' (.func 277) [] [],.G' (.func 279) [] [],.G' (.func 279) [] [],.G' (.func 278) [] [],.G' (.func 279) [] [],.G' (.func 279) [] [],.G' (.func 279) [] [],.G' (.func 279) [] [],.G' (.func 279) [] [],.G' (.func 279) [] [],.G' (.func 279) [] []]
structure FmC (cs fs:List Ci) (lp:dc) (L:List (Cc×Nat)) (j n:Nat) (h:Tr Cv):Prop where
 g0:h.u 0=some (.J [Cp Cq 2 cs,Cp Cq 2 fs] 40 false)
 c:h.u 2=some (.J [.bool false] 4 false)
 g3:h.u 3=some (.J tabT 284 false)
 g4:h.u 4=some (.J [.int .i64 (j:Nat)] 3 false)
 d:h.u 6=some (.G' true)
 b:h.u 7=some (.Z lp)
 a:∀i (hi:i<L.length),i<j->kR cs fs i L[i]=true
 lt:8<=n
structure FmD (cs fs:List Ci) (L:List (Cc×Nat)) (n:Nat) (h:Tr Cv):Prop where
 g2:h.u 2=some (.J [.bool false] 4 false)
 df:h.u 6=some (.G' true)
 lp:∃lp,h.u 7=some (.Z lp)/\lp.a= .done/\lp.b=some .ret
 no:jh cs fs 0 L=false
 lt:8<=n
theorem FmC.mono {cs fs:List Ci} {lp:dc} {L:List (Cc×Nat)} {j n n':Nat} {h h':Tr Cv} (H:FmC cs fs lp L j n h) (hn:n<=n') (hh:∀d,d<n->h'.u d=h.u d):FmC cs fs lp L j n' h':=by
 have:=H.lt;exact⟨(hh 0 (by omega)).trans H.g0,(hh 2 (by omega)).trans H.c,(hh 3 (by omega)).trans H.g3,(hh 4 (by omega)).trans H.g4,(hh 6 (by omega)).trans H.d,(hh 7 (by omega)).trans H.b,H.a,Nat.le_trans this hn⟩
theorem FmD.mono {cs fs:List Ci} {L:List (Cc×Nat)} {n n':Nat} {h h':Tr Cv} (H:FmD cs fs L n h) (hn:n<=n') (hh:∀d,d<n->h'.u d=h.u d):FmD cs fs L n' h':=by
 have:=H.lt;obtain⟨lp,l1,l2⟩:=H.lp;exact⟨(hh 2 (by omega)).trans H.g2,(hh 6 (by omega)).trans H.df,⟨lp,(hh 7 (by omega)).trans l1,l2⟩,H.no,Nat.le_trans this hn⟩
theorem VF {cs fs:List Ci}:∀ {L:List (Cc×Nat)} {k i:Nat} (hi:i<L.length),kR cs fs (k+i) L[i]=false->jh cs fs k L=false
 |x::L,k,0,_,h=>by rw[jh,show kR cs fs k x=false from h];rfl
 |x::L,k,i+1,hi,h=>by
  rw[jh,VF (L:=L) (k:=k+1) (i:=i) (Nat.lt_of_succ_lt_succ hi) (by rw[Nat.add_assoc,Nat.add_comm 1 i];exact h),Bool.and_false]
theorem Sp {cs fs:List Ci}:∀ {L:List (Cc×Nat)} {k:Nat},(∀i (hi:i<L.length),kR cs fs (k+i) L[i]=true)->jh cs fs k L=true
 | [],_,_=>rfl
 |x::L,k,h=>by
  rw[jh,show kR cs fs k x=true from h 0 (Nat.zero_lt_succ _),Sp (L:=L) (k:=k+1) fun i hi=>by
   have:=h (i+1) (Nat.succ_lt_succ hi);rw[<-Nat.add_assoc,Nat.add_right_comm]at this;exact this];rfl
mutual
theorem LX:∀(t:Cc) (d:Nat),YN t->∀x∈C7 t d,YN x.1
 | .mk o n ks,d,h,x,hx=>by
  rw[C7]at hx;rcases Qk.1 hx with rfl|hx
  .exact h
  .cases h with
   |mk h1 h2=>exact Tc ks (d+1) h2 x hx
theorem Tc:∀(ts:List Cc) (d:Nat),(∀t∈ts,YN t)->∀x∈C7.go ts d,YN x.1
 | [],_,_,x,hx=>by cases hx
 |t::ts,d,h,x,hx=>by
  rw[C7.go]at hx;rcases List.mem_append.1 hx with hx|hx
  .exact LX t d (h t (Qh ..)) x hx
  .exact Tc ts d (fun u hu=>h u (Qg _ hu)) x hx
end
theorem Wx (f:FuncId) (args:List AV) (h:uf f=true):KC7 f args=none:=by
 unfold uf at h;simp only[Bool.or_eq_true]at h;rcases h with((h|h)|h)|h<;>(obtain rfl:=Qb h;rfl)
theorem Rg {sB:St} {nt:Nat} {T:Tr AV} {ps:List Nat} {a b:Code} {cs fs:List Ci} {t:Cc} {R:AV->St->Prop} (hs:YN t)
 (g0:sB.heap.u 0=some (.J [Cp Cq 2 cs,Cp Cq 2 fs] 40 false)) (g2:sB.heap.u 2=some (.J [.bool false] 4 false)) (g3:sB.heap.u 3=some (.J tabT 284 false))
 (g4:sB.heap.u 4=some (.J [.int .i64 ((0:Nat):Int)] 3 false)) (g5:sB.heap.u 5=some (.J (Cf t) 47 false)) (nB:sB.a=6)
 (hy:∀j (hj:j<(C7 t 1).length) (st:St),8<=st.b->st.b<=st.a->FmC cs fs (xk nt T ps a b) (C7 t 1) j st.a st.heap->kD (EK KC7) 7 [.agg (Cf (C7 t 1)[j].1),.int .i64 ((C7 t 1)[j].2:Nat)] st fun v s'=>st.a<=s'.a/\s'.b=st.b/\7∈s'.c/\(∀d∈s'.c,d∈st.c\/d<st.b)/\
  (∀d,8<=d->d<st.a->s'.heap.u d=st.heap.u d)/\(v=true->FmC cs fs (xk nt T ps a b) (C7 t 1) (j+1) s'.a s'.heap)/\(v=false->FmD cs fs (C7 t 1) s'.a s'.heap))
 (k:∀w s3,AllN (aR sB nt T ps a b) (C7 t 1) (FmC cs fs (xk nt T ps a b) (C7 t 1)) (FmD cs fs (C7 t 1)) w s3->R w s3):
 CD (EK KC7) 265 [.G' (.yield (sB.a+1)) [] [],.Z 5 0] (aR sB nt T ps a b) R:=by
 have hn:(aR sB nt T ps a b).a=8:=by show sB.a+2=8;rw[nB]
 rw[nB];refine CD.mono (OS (t:=t) (C:=FmC cs fs (xk nt T ps a b) (C7 t 1)) (D:=FmD cs fs (C7 t 1)) ⟨fun h hn hh=>h.mono hn hh,fun h hn hh=>h.mono hn hh,?_,?_,?_,Wx⟩ hs ?_ ?_ ?_) k
 .intro j hj st h1 h2 hC;rw[hn]at h1|-;exact hy j hj st h1 h2 hC
 .intro j n h hj hC;have:=hC.a j hj (Nat.lt_succ_self j);unfold kR at this;simp only[Qf,decide_eq_true_eq]at this;omega
 .omega
 .refine⟨?_,?_,?_,?_,?_,?_,fun i _ h=>absurd h (Nat.not_lt_zero _),?_⟩
  .exact(AZ (by omega)).trans g0
  .exact(AZ (by omega)).trans g2
  .exact(AZ (by omega)).trans g3
  .exact(AZ (by omega)).trans g4
  .rw[show 6=sB.a from nB.symm];exact MX
  .rw[show 7=sB.a+1 by omega];exact MW
  .omega
 .omega
 .exact(AZ (by omega)).trans g5
theorem Mq {fr:Fr} {l:Sl} {st:St} {r v:Bool} (hd:fr.defers=[{a:= .J 6,args:=[]}]) (h4:Am.e_ 4 l=some (.Z 2 0)) (g2:st.heap.u 2=some (.J [.bool r] 4 false)) (g6:st.heap.u 6=some (.G' true)) (hb:st.b=0) (hl:st.c=[]) (hv:r=v):
 (Ex.Z= .Z\/Ex.Z= .J)/\∃Zy,bS fr.defers st=some Zy/\Zy.c=[]/\Zy.b=0/\∃vs w ks,CO (EK KC7) Zy l (Tryz.f189).results.toList=some vs/\CW Zy 0 40 (eT vs) []=some (w,ks)/\Cw 0 40 w=true/\w= .bool v:=by
 subst hv;obtain⟨s',e1,e2,e3,e4,e5⟩:=Ff (rs:=[6]) (s:=st) (List.nodup_cons.2 ⟨(fun h=>by cases h),List.nodup_nil⟩) (fun q hq=>by rw[Qp.1 hq];exact g6);refine⟨.inl U,s',by rw[hd];exact e1,(e4 hb).trans hl,e3.trans hb,[.bool r],.bool r,[],?_,U,U,U⟩;exact DO h4 ag_4 sz_4 ((e5 2 (fun h=>by cases (Qp.1 h))).trans g2) U U
set_option maxHeartbeats 4000000 in
set_option maxRecDepth 20000 in
theorem Xq (cs fs:List Ci) (t:Cc) (hc:cs.length<=4000) (hf:fs.length<=4000) (hs:YN t):Cj (EK KC7) 189 [CH cs fs,.agg (Cf t)] S0 (.bool (CQ cs fs t)):=by
 have e0:=Ak t;rw[e0];unfold CH;refine IB (fn:=Tryz.f189) U U U U U U U<|Eh U<|Es<|AR (fn:=Tryz.f241) U U U U U U U U U U U U U ?_;iterate 2 refine Eh U ?_
 refine Sq<|Ew U<|Sb<|A3<|Ew U<|Sq<|Tt U<|Sk<|Sq<|Sb ?_;iterate 2 refine Ew U ?_
 refine Tf U<|Sk<|Sr<|Lq (ka (a:=0) (b:=1) U (by omega)) U<|Lw U<|A3<|Ew U<|Sq<|Tt U<|Sk<|Sq<|Sb<|Ew U<|Es<|Lv 4 U<|Lh U U (kX (m:=1) U (by omega) U)<|Ls 1 U<|Lh U U (BA (neg:=false) U U U U U)<|Lw U<|Tf U<|Sk<|Sr<|Lq (ka (a:=1) (b:=1) U (by omega)) U<|Lw U<|A3<|Ew U<|Sq<|Tt U<|Sk<|Sq<|Sb<|Ew U<|Es<|Lv 4 U<|Lh U U (kX (m:=2) U (by omega) U)<|Ls 1 U<|Lh U U (BA (neg:=false) U U U U U)<|Lw U<|Tf U<|Sk<|Sr<|Lq (ka (a:=2) (b:=1) U (by omega)) U<|Lw U<|A3<|Ew U<|Sq<|Tt U<|Sk<|Sq<|Sb<|Ew U<|Es<|Lv 4 U<|Lh U U (kX (m:=3) U (by omega) U)<|Ls 1 U<|Lh U U (BA (neg:=false) U U U U U)<|Lw U<|Tf U<|Sk<|Sr<|Lq (ka (a:=3) (b:=1) U (by omega)) U<|Lw U<|A3<|Ew U<|Sq<|Tt U<|Sk<|Sq<|Sb<|Ew U<|Es<|Lv 4 U<|Lh U U (kX (m:=4) U (by omega) U)<|Ls 1 U<|Lh U U (BA (neg:=false) U U U U U)<|Lw U<|Tf U<|Sk<|Sr<|Lq (ka (a:=4) (b:=1) U (by omega)) U<|Lw U<|A3<|Ew U<|Sq<|Tt U<|Sk<|Sq<|Sb<|Ew U<|Es<|Lv 4 U<|Lh U U (kX (m:=5) U (by omega) U)<|Ls 1 U<|Lh U U (BA (neg:=false) U U U U U)<|Lw U<|Tf U<|Sk<|Sr<|Lq (ka (a:=5) (b:=1) U (by omega)) U<|Lw U<|A3<|Ew U<|Sq<|Tt U<|Sk<|Sq<|Sb<|Ew U<|Es<|Lv 4 U<|Lh U U (kX (m:=6) U (by omega) U)<|Ls 1 U<|Lh U U (BA (neg:=false) U U U U U)<|Lw U<|Tt U<|Sr<|qm U<|Lq (kX (m:=6) U (by omega) U) U<|Lx U<|Sr<|Lq (ka (a:=6) (b:=1) U (by omega)) U<|Lw U<|A3<|Ew U<|Sq<|Tt U<|Sk<|Sq<|Sb<|Ew U<|Es<|Lv 4 U<|Lh U U (kX (m:=7) U (by omega) U)<|Ls 1 U<|Lh U U (BA (neg:=false) U U U U U)<|Lw U<|Tt U<|Sr<|qm U<|Lq (kX (m:=7) U (by omega) U) U<|Lx U<|Sr<|Lq (ka (a:=7) (b:=1) U (by omega)) U<|Lw U<|A3<|Ew U<|Sq<|Tt U<|Sk<|Sq<|Sb<|Ew U<|Es<|Lv 4 U<|Lh U U (kX (m:=8) U (by omega) U)<|Ls 1 U<|Lh U U (BA (neg:=false) U U U U U)<|Lw U<|Tf U<|Sk<|Sr<|Lq (ka (a:=8) (b:=1) U (by omega)) U<|Lw U<|A3<|Ew U<|Sq<|Tt U<|Sk<|Sq<|Sb<|Ew U<|Es<|Lv 4 U<|Lh U U (kX (m:=9) U (by omega) U)<|Ls 1 U<|Lh U U (BA (neg:=false) U U U U U)<|Lw U<|Tt U<|Sr<|qm U<|Lq (kX (m:=9) U (by omega) U) U<|Lx U<|Sr<|Lq (ka (a:=9) (b:=1) U (by omega)) U<|Lw U<|A3<|Ew U<|Sq<|Tt U<|Sk<|Sq<|Sb<|Ew U<|Es<|Lv 4 U<|Lh U U (kX (m:=10) U (by omega) U)<|Ls 1 U<|Lh U U (BA (neg:=false) U U U U U)<|Lw U<|Tt U<|Sr<|qm U<|Lq (kX (m:=10) U (by omega) U) U<|Lx U<|Sr<|Lq (ka (a:=10) (b:=1) U (by omega)) U<|Lw U<|A3<|Ew U<|Sq<|Tt U<|Sk<|Sq<|Sb<|Ew U<|Es<|Lv 4 U<|Lh U U (kX (m:=11) U (by omega) U)<|Ls 1 U<|Lh U U (BA (neg:=false) U U U U U)<|Lw U<|Tt U<|Sr<|qm U<|Lq (kX (m:=11) U (by omega) U) U<|Lx U<|Sr<|Lq (ka (a:=11) (b:=1) U (by omega)) U<|Lw U<|A3<|Ew U<|Sq<|Tt U<|Sk<|Sq<|Sb<|Ew U<|Es<|Lv 4 U<|Lh U U (kX (m:=12) U (by omega) U)<|Ls 1 U<|Lh U U (BA (neg:=false) U U U U U)<|Lw U<|Tt U<|Sr<|qm U<|Lq (kX (m:=12) U (by omega) U) U<|Lx U<|Sr<|Lq (ka (a:=12) (b:=1) U (by omega)) U<|Lw U<|A3<|Ew U<|Sq<|Tt U<|Sk<|Sq<|Sb<|Ew U<|Es<|Lv 4 U<|Lh U U (kX (m:=13) U (by omega) U)<|Ls 1 U<|Lh U U (BA (neg:=false) U U U U U)<|Lw U<|Tt U<|Sr<|qm U<|Lq (kX (m:=13) U (by omega) U) U<|Lx U<|Sr<|Lq (ka (a:=13) (b:=1) U (by omega)) U<|Lw U<|A3<|Ew U<|Sq<|Tt U<|Sk<|Sq<|Sb<|Ew U<|Es<|Lv 4 U<|Lh U U (kX (m:=14) U (by omega) U)<|Ls 1 U<|Lh U U (BA (neg:=false) U U U U U)<|Lw U<|Tt U<|Sr<|qm U<|Lq (kX (m:=14) U (by omega) U) U<|Lx U<|Sr<|Lq (ka (a:=14) (b:=1) U (by omega)) U<|Lw U<|A3<|Ew U<|Sq<|Tt U<|Sk<|Sq<|Sb<|Ew U<|Es<|Lv 4 U<|Lh U U (kX (m:=15) U (by omega) U)<|Ls 1 U<|Lh U U (BA (neg:=false) U U U U U)<|Lw U<|Tt U<|Sr<|qm U<|Lq (kX (m:=15) U (by omega) U) U<|Lx U<|Sr<|Lq (ka (a:=15) (b:=1) U (by omega)) U<|Lw U<|A3<|Ew U<|Sq<|Tf U<|Sx<|Ax U<|Eh U<|Se (AC (Zx.same U (O3 U ag_284 sz_284 U (Qc U) U) U U U U ?_));refine Lx U<|Sq<|Es<|Ls 1 U<|AR (fn:=Tryz.f234) U U U U U U U U U U U U U<|Eh U<|Ew U<|Se (AC (Zx.new U (Aa U U) U U U U ?_));refine Ld<|Sb<|AJ fun sB bL=>?_;have g0:sB.heap.u 0=some (.J [Cp Cq 2 cs,Cp Cq 2 fs] 40 false):=by rw[bL];exact AD 0
 have g2:sB.heap.u 2=some (.J [.bool false] 4 false):=by rw[bL];exact AD 2
 have g3:sB.heap.u 3=some (.J tabT 284 false):=by rw[bL];exact AD 3
 have g4:sB.heap.u 4=some (.J [.int .i64 ((0:Nat):Int)] 3 false):=by rw[bL];exact AD 4
 have g5:sB.heap.u 5=some (.J (Cf t) 47 false):=by rw[bL,e0];exact AD 5
 have nB:sB.a=6:=by rw[bL];rfl
 have bB:sB.b=0:=by rw[bL];rfl
 have lB:sB.c=[]:=by rw[bL];rfl
 clear bL;refine IA U U U fun T mO=>?_;have hT:k8 [(6,.Z 4 0),(5,.Z 3 0),(4,.Z 2 0),(2,.Z 0 0)] T:=mO.sub (Ac (by trivial));clear mO;refine Rg hs g0 g2 g3 g4 g5 nB ?_ ?_
 .intro j hj st kN np hC;rcases hx:(C7 t 1)[j]with⟨⟨o,n,ks⟩,dep⟩
  have e1:Cf (.mk o n ks)=[.int .i64 o,.int .i64 n,Cs ks]:=AG ..;dsimp only;rw[e1];refine⟨_,_,_,hC.b,U,(hT.put 12 _).put 13 _,?_⟩;obtain⟨a1,a2,a3,a4,a5,a6,a7⟩:=FY (st:=st) (z:=[.int .i64 0,.int .i64 0,.Ca]) (cs:=[.int .i64 o,.int .i64 n,Cs ks]) (T:=47);refine Es<|Lo (kz U) U<|Ln (kw U a1 U) U<|Ld<|Sr<|Lw U ?_;refine⟨U,_,(a4 7 (by omega)).trans hC.b,U,?_⟩;refine AJ fun sX bm=>?_;have x7:7<((st.A (.J [.int .i64 0,.int .i64 0,.Ca] 47 false)).B st.a (some (.J [.int .i64 o,.int .i64 n,Cs ks] 47 false))).b:=by rw[a5];omega
  have xo:∀d,d≠7->sX.heap.u d=((st.A (.J [.int .i64 0,.int .i64 0,.Ca] 47 false)).B st.a (some (.J [.int .i64 o,.int .i64 n,Cs ks] 47 false))).heap.u d:=fun d hd=>by rw[bm];exact AF.trans (if_neg hd)
  have xl:=(congrArg (fun s=>s.heap.u 7) bm).trans (AF.trans (if_pos rfl));have xm:7∈sX.c:=by rw[bm];exact Dn x7
  have xg:∀d∈sX.c,d∈st.c\/d<st.b:=fun d hd=>by
   rw[bm]at hd;rcases Ds hd with h|⟨_,h⟩
   .exact .inl (by rw[<-a6 np];exact h)
   .exact .inr (by rw[<-a5];exact h)
  have nX:sX.a=st.a+1:=by rw[bm];exact a7
  have bX:sX.b=st.b:=by rw[bm];exact a5
  have q0:=(xo 0 (by decide)).trans ((a4 0 (by omega)).trans hC.g0);have q2:=(xo 2 (by decide)).trans ((a4 2 (by omega)).trans hC.c);have q3:=(xo 3 (by decide)).trans ((a4 3 (by omega)).trans hC.g3);have q4:=(xo 4 (by decide)).trans ((a4 4 (by omega)).trans hC.g4);have q6:=(xo 6 (by decide)).trans ((a4 6 (by omega)).trans hC.d);have qt:=(xo st.a (by omega)).trans a2;have xf:∀d,8<=d->d<st.a->sX.heap.u d=st.heap.u d:=fun d h1 h2=>(xo d (by omega)).trans (a4 d h2);clear bm xo x7 a1 a2 a3 a4 a5 a6 a7;have hj40:j<=40:=by
   cases j with
   |zero=>exact Qo _
   |succ j=>
    have:=hC.a j (by omega) (Nat.lt_succ_self j);unfold kR at this;simp only[Qf,decide_eq_true_eq]at this;omega
  refine Sb<|Es<|Lo (kl U q4 U) U<|Lq (ka (b:=1) U (by omega)) U<|Ln (kw U q4 U) U<|Ld<|AJ fun sY hsY=>?_;have yo:∀d,d≠4->sY.heap.u d=sX.heap.u d:=fun d hd=>by rw[hsY];exact AF.trans (if_neg hd)
  have r4:sY.heap.u 4=some (.J [.int .i64 ((j+1:Nat):Int)] 3 false):=by rw[hsY];exact AF.trans (if_pos rfl)
  have ym:7∈sY.c:=by rw[hsY];exact Dz xm
  have yg:∀d∈sY.c,d∈st.c\/d<st.b:=fun d hd=>by
   rw[hsY]at hd;rcases Ds hd with h|⟨_,h⟩
   .exact xg d h
   .exact .inr (by rw[<-bX];exact h)
  have nY:sY.a=st.a+1:=by rw[hsY];exact nX
  have bY:sY.b=st.b:=by rw[hsY];exact bX
  have r0:=(yo 0 (by decide)).trans q0;have r2:=(yo 2 (by decide)).trans q2;have r3:=(yo 3 (by decide)).trans q3;have r6:=(yo 6 (by decide)).trans q6;have rt:=(yo st.a (by omega)).trans qt;have rl:=(yo 7 (by decide)).trans xl;have rf:∀d,8<=d->d<st.a->sY.heap.u d=st.heap.u d:=fun d h1 h2=>(yo d (by omega)).trans (xf d h1 h2);clear hsY yo xl xm xg nX bX q0 q2 q3 q4 q6 qt xf;refine BT (D6 (fun b=>([(38,.bool b),(4,.Z 2 0)],sY)) (fun b=>b= !kR cs fs j (.mk o n ks,dep)) ?_ ?_)
  .have hlen:=BC (l:=ks);have hk:ks.length<=4000:=by
    have hm:=LX t 1 hs _ (Ql hj);rw[hx]at hm;cases hm with
    |mk h _=>exact h
   focus
    refine BU U<|Nm U r4 U (.inl U) U<|Nv 2 U<|Dd U (fun h6=>?_) (fun h6=>?_);refine Nw U ?_;rotate_left;refine Nv 4 U<|Dd U (fun h7=>?_) (fun h7=>?_);refine Nw U ?_;rotate_left;refine Nv 1 U<|Nm U rt U (gG U) U<|Na (kC U (D1)) (gG U) U<|Nv 3 U<|Db U (fun g8=>?_) (fun g8=>?_);have h8:=sv g8;refine Nw U ?_;rotate_left;have h8:=sw g8;refine Nv 1 U<|Nm U rt U (gG U) U ?_;rotate_left
   .exact⟨U,true,by unfold kR;rw[decide_eq_false (by omega:¬j+1<=40)];rfl,U,Ac (by trivial)⟩
   .exact⟨U,true,by unfold kR;rw[decide_eq_false (show¬((Cc.mk o n ks,dep):Cc×Nat).2<=12 by dsimp only;omega),Bool.and_false];rfl,U,Ac (by trivial)⟩
   .exact⟨U,true,by unfold kR ue;rw[show ZZ ((Cc.mk o n ks,dep):Cc×Nat).1.op 1 15=false from h8,Bool.false_and,Bool.and_false];rfl,U,Ac (by trivial)⟩
   have h9:=aS.1 h8;have ZO:kR cs fs j (.mk o n ks,dep)=ue cs fs o n (ks.length:Nat):=by
    unfold kR;rw[decide_eq_true (by omega:j+1<=40),decide_eq_true (show((Cc.mk o n ks,dep):Cc×Nat).2<=12 by dsimp only;omega)];rfl
   rw[ZO];have qg:=Rs (cs:=cs) (fs:=fs) (o:=o) (n:=n) (ks:=ks) hc hf hk;rw[AG]at qg;have rz:=Rr (cs:=cs) (fs:=fs) (o:=o) (n:=n) (ks:=ks) hc hf hk;rw[AG]at rz;have k_con:=Rq (cs:=cs) (fs:=fs) (o:=o) (n:=n) (ks:=ks) hc hf hk;rw[AG]at k_con;have k_fun:=Rp (cs:=cs) (fs:=fs) (o:=o) (n:=n) (ks:=ks) hc hf hk;rw[AG]at k_fun;have k_part:=Ro (cs:=cs) (fs:=fs) (o:=o) (n:=n) (ks:=ks) hc hf hk;rw[AG]at k_part;have gF:=B9 (cs:=cs) (fs:=fs) (o:=o) (n:=n) (ks:=ks) hc hf hk;rw[AG]at gF;have k_let:=Rn (cs:=cs) (fs:=fs) (o:=o) (n:=n) (ks:=ks) hc hf hk;rw[AG]at k_let;obtain rfl|rfl|rfl|rfl|rfl|rfl|rfl|rfl|rfl|rfl|rfl|rfl|rfl|rfl|rfl:o=1\/o=2\/o=3\/o=4\/o=5\/o=6\/o=7\/o=8\/o=9\/o=10\/o=11\/o=12\/o=13\/o=14\/o=15:=by omega
   .have Rs:=qg;refine Nz (kX (m:=1) U (by omega) U) U U<|Nm U r3 U (gG U) U<|NM U r0 U (gG U) U<|Nv 1 U<|NM U rt U (gG U) U<|Na (kV U (Rs)) (gG U) U<|Nw U ?_;exact⟨U,_,U,U,Ac (by trivial)⟩
   .have Rr:=rz;refine Nz (kX (m:=2) U (by omega) U) U U<|Nm U r3 U (gG U) U<|NM U r0 U (gG U) U<|Nv 1 U<|NM U rt U (gG U) U<|Na (kV U (Rr)) (gG U) U<|Nw U ?_;exact⟨U,_,U,U,Ac (by trivial)⟩
   .have Rq:=k_con;refine Nz (kX (m:=3) U (by omega) U) U U<|Nm U r3 U (gG U) U<|NM U r0 U (gG U) U<|Nv 1 U<|NM U rt U (gG U) U<|Na (kV U (Rq)) (gG U) U<|Nw U ?_;exact⟨U,_,U,U,Ac (by trivial)⟩
   .have Rp:=k_fun;refine Nz (kX (m:=4) U (by omega) U) U U<|Nm U r3 U (gG U) U<|NM U r0 U (gG U) U<|Nv 1 U<|NM U rt U (gG U) U<|Na (kV U (Rp)) (gG U) U<|Nw U ?_;exact⟨U,_,U,U,Ac (by trivial)⟩
   .have Ro:=k_part;refine Nz (kX (m:=5) U (by omega) U) U U<|Nm U r3 U (gG U) U<|NM U r0 U (gG U) U<|Nv 1 U<|NM U rt U (gG U) U<|Na (kV U (Ro)) (gG U) U<|Nw U ?_;exact⟨U,_,U,U,Ac (by trivial)⟩
   .have B9:=gF;refine Nz (kX (m:=6) U (by omega) U) U U<|Nm U r3 U (gG U) U<|NM U r0 U (gG U) U<|Nv 1 U<|NM U rt U (gG U) U<|Na (kV U (B9)) (gG U) U<|Nw U ?_;exact⟨U,_,U,U,Ac (by trivial)⟩
   .have B9:=gF;refine Nz (kX (m:=7) U (by omega) U) U U<|Nm U r3 U (gG U) U<|NM U r0 U (gG U) U<|Nv 1 U<|NM U rt U (gG U) U<|Na (kV U (B9)) (gG U) U<|Nw U ?_;exact⟨U,_,U,U,Ac (by trivial)⟩
   .have Rn:=k_let;refine Nz (kX (m:=8) U (by omega) U) U U<|Nm U r3 U (gG U) U<|NM U r0 U (gG U) U<|Nv 1 U<|NM U rt U (gG U) U<|Na (kV U (Rn)) (gG U) U<|Nw U ?_;exact⟨U,_,U,U,Ac (by trivial)⟩
   .have B9:=gF;refine Nz (kX (m:=9) U (by omega) U) U U<|Nm U r3 U (gG U) U<|NM U r0 U (gG U) U<|Nv 1 U<|NM U rt U (gG U) U<|Na (kV U (B9)) (gG U) U<|Nw U ?_;exact⟨U,_,U,U,Ac (by trivial)⟩
   .have B9:=gF;refine Nz (kX (m:=10) U (by omega) U) U U<|Nm U r3 U (gG U) U<|NM U r0 U (gG U) U<|Nv 1 U<|NM U rt U (gG U) U<|Na (kV U (B9)) (gG U) U<|Nw U ?_;exact⟨U,_,U,U,Ac (by trivial)⟩
   .have B9:=gF;refine Nz (kX (m:=11) U (by omega) U) U U<|Nm U r3 U (gG U) U<|NM U r0 U (gG U) U<|Nv 1 U<|NM U rt U (gG U) U<|Na (kV U (B9)) (gG U) U<|Nw U ?_;exact⟨U,_,U,U,Ac (by trivial)⟩
   .have B9:=gF;refine Nz (kX (m:=12) U (by omega) U) U U<|Nm U r3 U (gG U) U<|NM U r0 U (gG U) U<|Nv 1 U<|NM U rt U (gG U) U<|Na (kV U (B9)) (gG U) U<|Nw U ?_;exact⟨U,_,U,U,Ac (by trivial)⟩
   .have B9:=gF;refine Nz (kX (m:=13) U (by omega) U) U U<|Nm U r3 U (gG U) U<|NM U r0 U (gG U) U<|Nv 1 U<|NM U rt U (gG U) U<|Na (kV U (B9)) (gG U) U<|Nw U ?_;exact⟨U,_,U,U,Ac (by trivial)⟩
   .have B9:=gF;refine Nz (kX (m:=14) U (by omega) U) U U<|Nm U r3 U (gG U) U<|NM U r0 U (gG U) U<|Nv 1 U<|NM U rt U (gG U) U<|Na (kV U (B9)) (gG U) U<|Nw U ?_;exact⟨U,_,U,U,Ac (by trivial)⟩
   .have B9:=gF;refine Nz (kX (m:=15) U (by omega) U) U U<|Nm U r3 U (gG U) U<|NM U r0 U (gG U) U<|Nv 1 U<|NM U rt U (gG U) U<|Na (kV U (B9)) (gG U) U<|Nw U ?_;exact⟨U,_,U,U,Ac (by trivial)⟩
  .rintro _ rfl;cases hb:kR cs fs j (.mk o n ks,dep)with
   |true=>
    refine Tf U<|Sk ?_;refine⟨U,_,rl,?_⟩;refine⟨by show st.a<=sY.a;omega,bY,Dz ym,?_,?_,fun _=>?_,fun h=>by cases h⟩
    .intro d hd;rcases Ds hd with h|⟨_,h⟩
     .exact yg d h
     .exact .inr (by rw[<-bY];exact h)
    .intro d h1 h2;exact(AF.trans (if_neg (by omega))).trans (rf d h1 h2)
    .refine⟨(AF.trans (if_neg (by decide))).trans r0,(AF.trans (if_neg (by decide))).trans r2,(AF.trans (if_neg (by decide))).trans r3,(AF.trans (if_neg (by decide))).trans r4,(AF.trans (if_neg (by decide))).trans r6,AF.trans (if_pos U),fun i hi C8=>?_,by show 8<=sY.a;omega⟩;rcases Nat.lt_or_ge i j with h1|h1
     .exact hC.a i hi h1
     .obtain rfl:i=j:=by omega
      rw[hx];exact hb
   |false=>
    refine Tt U<|Es<|Ln (kw U r2 U) U<|Ld<|Se ?_;refine⟨U,_,(AF.trans (if_neg (by decide))).trans rl,?_⟩;refine⟨by show st.a<=sY.a;omega,bY,Dz (Dz ym),?_,?_,(fun h=>by cases h),fun _=>?_⟩
    .intro d hd;rcases Ds hd with h|⟨_,h⟩
     .rcases Ds h with h|⟨_,h⟩
      .exact yg d h
      .exact .inr (by rw[<-bY];exact h)
     .exact .inr (by rw[<-bY];exact h)
    .intro d h1 h2;exact(AF.trans (if_neg (by omega))).trans ((AF.trans (if_neg (by omega))).trans (rf d h1 h2))
    .exact⟨(AF.trans (if_neg (by decide))).trans (AF.trans (if_pos U)),(AF.trans (if_neg (by decide))).trans ((AF.trans (if_neg (by decide))).trans r6),⟨_,AF.trans (if_pos U),U,U⟩,VF hj (by rw[Nat.zero_add,hx];exact hb),by show 8<=sY.a;omega⟩
 .rintro w s3 ⟨e1,e2,e3,e4⟩;have bR:s3.b=0:=e1.trans bB;have lR:s3.c=[]:=List.eq_nil_iff_forall_not_mem.2 fun d hd=>by
   rcases e3 d hd with h|h
   .have h:d∈sB.c:=h;rw[lB]at h;cases h
   .have h:d<sB.b:=h;omega
  clear e1 e2 e3;rw[nB];rcases e4 with hC|hD
  .refine⟨_,hC.b,(fun h=>by cases h),?_⟩;show CA (EK KC7) _ _ _ _ _;refine AJ fun sZ tp=>?_;have z2:sZ.heap.u 2=some (.J [.bool false] 4 false):=by rw[tp];exact(AF.trans (if_neg (by decide))).trans hC.c
   have z6:sZ.heap.u 6=some (.G' true):=by rw[tp];exact(AF.trans (if_neg (by decide))).trans hC.d
   have bZ:sZ.b=0:=by rw[tp];exact bR
   have lZ:sZ.c=[]:=by rw[tp];exact(Bu bR).trans lR
   clear tp;refine Es<|Ln (kw U z2 U) U<|Ld<|Se<|Mq U U (AF.trans (if_pos U)) ((AF.trans (if_neg (by decide))).trans z6) bZ ((Bu bZ).trans lZ) ?_;rw[<-Oq];exact(Sp fun i hi=>by rw[Nat.zero_add];exact hC.a i hi hi).symm
  .obtain⟨lp,l1,l2,l3⟩:=hD.lp;refine⟨lp,l1,(by rw[l2];exact fun h=>by cases h),?_⟩;rw[l3]
   skip
   refine Mq U U ((AF.trans (if_neg (by decide))).trans hD.g2) ((AF.trans (if_neg (by decide))).trans hD.df) bR ((Bu bR).trans lR) ?_;rw[<-Oq];exact hD.no.symm
end Go.Proofs.YtfhimfcbphepeaaGreatDoor.Ty
