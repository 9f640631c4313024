/- Types: what is formed. -/
import Derived.Test.YtfhimfcbphepeaaGreatDoorCdA
set_option linter.unusedSectionVars false
set_option linter.unusedVariables false
set_option linter.unusedSimpArgs false
open Go Am
namespace Am
theorem rX {α:Type} {P:Program} {nt nf:Nat} {F:FuncId->Nat} {gl:kU} {K:FuncId->List AV->Option AV} {g:FuncId} {enc:α->List AV} {res:α->AV} {deep:α->Nat} (hp:Z6 P nt nf) (pR:∀g cs,gl g=some cs->cs.all (Cj 40)=true) (hK:Cq P gl K)
 (hi:∀a b,enc a=enc b->a=b) (hd:∀a,0<deep a) (ha:∀a,(enc a).all (Cj 40)=true) (hv:∀a,Cj 40 (res a)=true)
 (step:∀d a,deep a=d+1->lay K g enc res deep d g (enc a)=none->Cc (kV P nt nf F (lay K g enc res deep d) gl) g (enc a) S0 (res a)):Cq P gl (W7 K g enc res):=by
 have key:∀d,Cq P gl (lay K g enc res deep d):=by
  intro d;induction d with
  |zero=>exact A7 hK fun p=>absurd (hd p.1) (by have:=p.2;omega)
  |succ d ih=>
   refine A7 hK fun p=>?_;by_cases h:deep p.1<=d
   .exact ih _ _ _ (H8 hi p.1 h)
   .exact AP hp pR ih (step d p.1 (by have:=p.2;omega) (vW hi h)) (ha p.1) (hv p.1)
 exact A7 hK fun a=>key (deep a) _ _ _ (H8 hi a (Qj _))
end Am
namespace Go.Proofs.YtfhimfcbphepeaaGreatDoor.Ty
theorem QO {α:Type} {enc:α->List AV} {k:Nat} (hi:∀a b,enc a=enc b->a=b) (hl:∀a,(enc a).length=k+1):∀ {l m:List α},l.flatMap enc=m.flatMap enc->l=m
 | [],[],_=>rfl
 | [],b::m,h=>by
  have:=congrArg List.length h;rw[List.flatMap_cons,Ql,hl b,List.flatMap_nil,List.length_nil]at this;omega
 |a::l,[],h=>by
  have:=congrArg List.length h;rw[List.flatMap_cons,Ql,hl a,List.flatMap_nil,List.length_nil]at this;omega
 |a::l,b::m,h=>by
  rw[List.flatMap_cons,List.flatMap_cons]at h;obtain⟨h1,h2⟩:=List.append_inj h ((hl a).trans (hl b).symm);rw[hi a b h1,QO hi hl h2]
theorem Mb {α:Type} {enc:α->List AV} {k:Nat} (hi:∀a b,enc a=enc b->a=b) (hl:∀a,(enc a).length=k+1) {l m:List α} (h:CM enc (k+1) l=CM enc (k+1) m):l=m:=by
 unfold CM at h;exact QO hi hl (AV.Cf.inj h).1
inductive KT where
 |mk (op n:Int) (kids:List KT)
def KT.op:KT->Int| .mk o _ _=>o
def KT.n:KT->Int| .mk _ n _=>n
def KT.kids:KT->List KT| .mk _ _ k=>k
mutual
def Cm:KT->List AV
 | .mk o n ks=>[.int .i64 o,.int .i64 n,.Cf (pA ks) ks.length 3 true]
def pA:List KT->List AV
 | []=>[]
 |t::ts=>Cm t++pA ts
end
theorem Lm:∀l:List KT,pA l=l.flatMap Cm
 | []=>rfl
 |t::ts=>by rw[List.flatMap_cons,<-Lm ts];rfl
theorem DN (o n:Int) (ks:List KT):Cm (.mk o n ks)=[.int .i64 o,.int .i64 n,CM Cm 3 ks]:=by
 show [_,_,AV.Cf (pA ks) _ _ _]=_;rw[Lm];rfl
theorem AA (t:KT):Cm t=[.int .i64 t.op,.int .i64 t.n,CM Cm 3 t.kids]:=by
 obtain⟨o,n,ks⟩:=t;exact DN o n ks
theorem Ha (t:KT):(Cm t).length=2+1:=by rw[AA];rfl
mutual
def Wo:KT->Nat
 | .mk _ _ ks=>Xq ks+1
def Xq:List KT->Nat
 | []=>0
 |t::ts=>max (Wo t) (Xq ts)
end
theorem E8 (t:KT):Wo t=Xq t.kids+1:=by cases t;rfl
theorem Iz (t:KT):0<Wo t:=by rw[E8];omega
theorem BG:∀ {l:List KT} {t:KT},t∈l->Wo t<=Xq l
 |u::l,t,h=>by
  show Wo t<=max (Wo u) (Xq l);rcases Qk.1 h with rfl|h
  .exact Nat.le_max_left _ _
  .exact Nat.le_trans (BG h) (Nat.le_max_right _ _)
mutual
def oq:KT->Int->Int
 | .mk _ _ ks,l=>cF ks (l-1)
def cF:List KT->Int->Int
 | [],l=>l
 |t::ts,l=>if 0<=l then cF ts (oq t l)else l
end
mutual
theorem SX:∀(t:KT) (l:Int),0<=l->-1<=oq t l/\oq t l<=l-1
 | .mk _ _ ks,l,h=>OW ks (l-1) (by omega)
theorem OW:∀(ts:List KT) (l:Int),-1<=l->-1<=cF ts l/\cF ts l<=l
 | [],l,h=>by
  unfold cF;omega
 |t::ts,l,h=>by
  unfold cF;split
  .next hl=>
   have h1:=SX t l hl;have h2:=OW ts (oq t l) h1.1;omega
  .omega
end
theorem SW:∀ {ts:List KT} {l:Int},¬0<=l->cF ts l=l
 | [],_,_=>rfl
 |_::_,_,h=>by unfold cF;rw[if_neg h]
theorem Oj:∀(n:Nat) (t u:KT),Wo t<=n->Cm t=Cm u->t=u
 |0,t,u,h,_=>by rw[E8]at h;omega
 |n+1,t,u,h,e=>by
  rw[E8]at h;rw[AA,AA]at e;obtain⟨o,m,ks⟩:=t;obtain⟨o',m',Zt⟩:=u;simp only[List.cons.injEq,AV.int.injEq,true_and,and_true]at e;obtain⟨e1,e2,e3⟩:=e;have e1:o=o':=e1;have e2:m=m':=e2;have e3:ks.flatMap Cm=Zt.flatMap Cm:=(AV.Cf.inj e3).1;have key:∀ {a b:List KT},(∀t∈a,Wo t<=n)->a.flatMap Cm=b.flatMap Cm->a=b:=by
   intro a;induction a with
   |nil=>intro b _ h;cases b with
    |nil=>rfl
    |cons u b=>rw[List.flatMap_cons,AA u]at h;cases h
   |cons t a ih=>intro b hd h;cases b with
    |nil=>rw[List.flatMap_cons,AA t]at h;cases h
    |cons u b=>
     rw[List.flatMap_cons,List.flatMap_cons]at h;obtain⟨h1,h2⟩:=List.append_inj h (by rw[Ha,Ha]);rw[Oj n t u (hd t (Qh ..)) h1,ih (fun x hx=>hd x (Qg _ hx)) h2]
  rw[e1,e2,key (fun t ht=>by have:=BG ht;have:Xq ks+1<=n+1:=h;omega) e3]
theorem BR (t u:KT) (h:Cm t=Cm u):t=u:=Oj _ t u (Qj _) h
theorem Te (t:KT):Cj 40 (.agg (Cm t))=true:=by rw[AA];rfl
theorem EF {l:List KT} {i:Nat} (h:i<l.length):CC (2+1) i (CM Cm 3 l)=some (.Wl (Cm l[i]++(l.drop (i+1)).flatMap Cm)):=A9 Ha h
abbrev WgT:= {p:KT×Int//0<=p.2/\p.2<=1000}
def jv (p:WgT):List AV:=[.agg (Cm p.1.1),.int .i64 p.1.2]
def rY (p:WgT):AV:= .int .i64 (oq p.1.1 p.1.2)
theorem Ju (x y:WgT) (h:jv x=jv y):x=y:=by
 obtain⟨⟨a,b⟩,_⟩:=x;obtain⟨⟨a',b'⟩,_⟩:=y;simp only[jv,List.cons.injEq,AV.int.injEq,AV.agg.injEq,true_and,and_true]at h;obtain⟨h1,rfl⟩:=h;obtain rfl:=BR _ _ h1;rfl
theorem Br (t:KT) (l:List AV) (h:l.all (Cj 40)=true):(AV.agg (Cm t)::l).all (Cj 40)=true:=by
 rw[List.all_cons,Te,h];rfl
theorem wH (d:Nat) (t:KT) (l:Int) (h:Wo t=d+1) (hl:0<=l/\l<=1000) (hx:lay Kq 18 jv rY (fun p=>Wo p.1.1) d 18 [.agg (Cm t),.int .i64 l]=none):
 Cc (EK (lay Kq 18 jv rY (fun p=>Wo p.1.1) d)) 18 [.agg (Cm t),.int .i64 l] S0 (.int .i64 (oq t l)):=by
 obtain⟨o,n,ks⟩:=t;have rZ:Xq ks<=d:=by have:Xq ks+1=d+1:=h;omega
 rw[DN]at hx|-;refine Fz (fn:=Tryz.f18) U hx (by kernel_rfl) U U U U<|Eh U<|Es<|qm U<|Lq (X9.sub U o9 U U (by omega)) U<|Lw U<|Sq<|Ew U<|Sb ?_;refine Ai (fun x:Nat×Int=>([(5,.int .i64 (x.1:Nat)),(1,.int .i64 x.2),(2,.ptr 0 0)],Xj 1 0 [] [(0,some (.cells [.int .i64 o,.int .i64 n,CM Cm 3 ks] 26 false))])) (fun x=>ks.length-x.1)
  (fun x=>x.1<=ks.length/\cF ks (l-1)=cF (ks.drop x.1) x.2/\-1<=x.2/\x.1+x.2<=1000) (0,l-1) ⟨Qm _,rfl,by dsimp only;omega,by dsimp only;omega⟩ rfl (Ah (by repeat' constructor)) ?_
 rintro⟨i,li⟩ ⟨hi,hw,h5,h6⟩;dsimp only at hi hw h5 h6|-;by_cases h:i<ks.length
 .have Yz:=EF h;by_cases h0:0<=li
  .have dc:lay Kq 18 jv rY (fun p=>Wo p.1.1) d 18 [.agg (Cm ks[i]),.int .i64 li]=some (.int .i64 (oq ks[i] li)):=H8 Ju ⟨(ks[i],li),h0,by omega⟩ (Nat.le_trans (BG (List.getElem_mem h)) rZ);have hle:=SX ks[i] li h0;rw[AA]at dc Yz;focus
    refine Sq<|Es<|Ls 6 U ?_;refine Bd U (fun h1=>?_) (fun h1=>?_);refine Lw U ?_;refine Cd U (fun h2=>?_) (fun h2=>?_);refine Sk<|Sq<|Sb<|Sr<|Ls 3 U<|Lq (kv U Yz) U<|Lv 2 U ?_;refine Lo (kc U (dc)) U<|Lw U<|Sr<|qm U ?_;refine Lq (ka (b:=1) U (by omega)) U ?_;refine Lw U ?_;rotate_left;exact absurd h2 (by omega);exact absurd h1 (by omega)
   exact⟨(i+1,oq ks[i] li),⟨h,by
    rw[hw,List.drop_eq_getElem_cons h,cF,if_pos h0],hle.1,by dsimp only;omega⟩,by show ks.length-(i+1)<ks.length-i;omega,rfl,rfl,Ah (by repeat' constructor)⟩
  .focus
    refine Sq<|Es<|Ls 6 U ?_;refine Bd U (fun h1=>?_) (fun h1=>?_);refine Lw U ?_;refine Cd U (fun h2=>?_) (fun h2=>?_);exact absurd h2 (by omega);refine Sx<|A8 U<|Ew U ?_;refine Se (Er U ?_);rotate_left;exact absurd h1 (by omega)
   show AV.int .i64 li= .int .i64 (cF ks (l-1));rw[hw,SW h0]
 .focus
   refine Sq<|Es<|Ls 6 U ?_;refine Bd U (fun h1=>?_) (fun h1=>?_);exact absurd h1 (by omega);refine Lw U<|Tf U<|Sx<|A8 U<|Ew U ?_;refine Se (Er U ?_);rotate_left
  show AV.int .i64 li= .int .i64 (cF ks (l-1));rw[hw,List.drop_eq_nil_of_le (by omega)];rfl
noncomputable def Kr:=W7 Kq 18 jv rY
theorem hq_18 {t:KT} {l:Int} (h0:0<=l) (h1:l<=1000):Kr 18 [.agg (Cm t),.int .i64 l]=some (.int .i64 (oq t l)):=An (enc:=jv) (fun a b h=>by rw[Ju a b h]) ⟨(t,l),h0,h1⟩
theorem allr (h:Wq Tryz.prog 8 [] (.bool true)):Cq Tryz.prog gn Kr:=
 rX (deep:=fun p:WgT=>Wo p.1.1) Ax Aj (allq h) Ju (fun p=>Iz p.1.1) (fun p=>Br _ _ rfl) (fun _=>rfl) fun d p hp hx=>wH d p.1.1 p.1.2 hp p.2 hx
structure DT where
 name:List UInt8
 params:Int
 cons:List (List KT)
def XS (c:List KT):List AV:=[CM Cm 3 c]
def Y9 (d:DT):List AV:=[.str d.name,.int .i64 d.params,CM XS 1 d.cons]
theorem wI (a b:List KT) (h:XS a=XS b):a=b:=Mb BR Ha (List.cons.inj h).1
theorem DD (c:List KT):(XS c).length=0+1:=rfl
theorem AS (d:DT):(Y9 d).length=2+1:=rfl
theorem QV (a b:DT) (h:Y9 a=Y9 b):a=b:=by
 obtain⟨a1,a2,a3⟩:=a;obtain⟨b1,b2,b3⟩:=b;simp only[Y9,List.cons.injEq,AV.str.injEq,AV.int.injEq,true_and,and_true]at h;obtain⟨rfl,rfl,h3⟩:=h;rw[Mb wI DD h3]
abbrev We (ds:List DT):AV:=CM Y9 3 ds
theorem EG {a b:List DT} (h:We a=We b):a=b:=Mb QV AS h
theorem Ed (ds:List DT):Cj 40 (We ds)=true:=rfl
mutual
def Wa:KT->Nat
 | .mk _ _ ks=>Wj ks+1
def Wj:List KT->Nat
 | []=>0
 |t::ts=>Wa t+Wj ts
end
theorem wJ (t:KT):Wa t=Wj t.kids+1:=by cases t;rfl
theorem Gx:∀ {l:List KT} {t:KT},t∈l->Wa t<=Wj l
 |u::l,t,h=>by
  show Wa t<=Wa u+Wj l;rcases Qk.1 h with rfl|h
  .omega
  .have:=Gx h;omega
theorem DX:∀ks:List KT,ks.length<=Wj ks
 | []=>Qj _
 |t::ts=>by
  have:=DX ts;have h:0<Wa t:=by rw[wJ];omega
  show ts.length+1<=Wa t+Wj ts;omega
mutual
theorem Gr:∀(t:KT) (l:Int),0<=oq t l->oq t l+Wa t=l
 | .mk _ _ ks,l,h=>by
  have:=MS ks (l-1) h;show cF ks (l-1)+((Wj ks+1:Nat):Int)=l;omega
theorem MS:∀(ts:List KT) (l:Int),0<=cF ts l->cF ts l+Wj ts=l
 | [],l,_=>by
  show l+((0:Nat):Int)=l;omega
 |t::ts,l,h=>by
  unfold cF at h|-;split at h
  .next hl=>
   rw[if_pos hl];have h2:=MS ts _ h;have h1:=Gr t l (by have:=(OW ts (oq t l) (SX t l hl).1);omega);show _+((Wa t+Wj ts:Nat):Int)=_;omega
  .omega
end
mutual
theorem Qp:∀(t:KT) (l:Int),(Wa t:Int)<=l->oq t l=l-Wa t
 | .mk _ _ ks,l,h=>by
  have h:((Wj ks+1:Nat):Int)<=l:=h;have:=Nf ks (l-1) (by omega);show cF ks (l-1)=l-((Wj ks+1:Nat):Int);omega
theorem Nf:∀(ts:List KT) (l:Int),(Wj ts:Int)<=l->cF ts l=l-Wj ts
 | [],l,_=>by
  show l=l-((0:Nat):Int);omega
 |t::ts,l,h=>by
  have h:((Wa t+Wj ts:Nat):Int)<=l:=h;have h1:=Qp t l (by omega);have h2:=Nf ts (oq t l) (by omega);unfold cF;rw[if_pos (by omega),h2,h1];show _=l-((Wa t+Wj ts:Nat):Int);omega
end
def partsOf (ds:List DT) (vars o n:Int):Option Int:=
 if o=1 then if 0<=n/\n<vars then some 0 else none
 else if o=2 then if n=0 then some 0 else none
 else if o=3 then if n=0 then some 2 else none
 else if o=4 then if 0<=n/\n<ds.length then some ((ds[n.toNat]?.map DT.params).getD 0)else none
 else none
def Y0 (ds:List DT) (vars o n:Int) (k:Nat):Bool:=partsOf ds vars o n==some (k:Int)
mutual
def Y1 (ds:List DT) (vars:Int):KT->Bool
 | .mk o n ks=>Y0 ds vars o n ks.length&&eC ds vars ks
def eC (ds:List DT) (vars:Int):List KT->Bool
 | []=>true
 |t::ts=>Y1 ds vars t&&eC ds vars ts
end
theorem Gw (ds:List DT) (vars:Int):∀ts:List KT,eC ds vars ts=ts.all (Y1 ds vars)
 | []=>rfl
 |t::ts=>by rw[eC,Gw ds vars ts];rfl
theorem Ij {α:Type} {l:List α} {f:α->Bool} {i:Nat} (h:i<l.length) (hf:f l[i]=false):l.all f=false:=by
 cases hb:l.all f with
 |false=>rfl
 |true=>
  have:=List.all_eq_true.1 hb l[i] (List.getElem_mem h);rw[hf]at this;cases this
theorem EC {α:Type} {l:List α} {f:α->Bool} (h:∀j (hj:j<l.length),f l[j]=true):l.all f=true:=
 List.all_eq_true.2 fun x hx=>by
  obtain⟨j,hj,rfl⟩:=List.mem_iff_getElem.1 hx;exact h j hj
theorem DH {α:Type} {l:List α} {P:α->Prop} {i:Nat} {h:i<l.length} (ha:∀j (hj:j<l.length),j<i->P l[j]) (hi:P l[i]):∀j (hj:j<l.length),j<i+1->P l[j]:=fun j hj Co=>by
 rcases Nat.lt_or_ge j i with h1|h1
 .exact ha j hj h1
 .obtain rfl:j=i:=by omega
  exact hi
abbrev SoT:= {p:List DT×KT×Int//Wa p.2.1<=1000/\p.1.length<=1000}
def jw (p:SoT):List AV:=[We p.1.1,.agg (Cm p.1.2.1),.int .i64 p.1.2.2]
def sb (p:SoT):AV:= .bool (Y1 p.1.1 p.1.2.2 p.1.2.1)
theorem Jw (x y:SoT) (h:jw x=jw y):x=y:=by
 obtain⟨⟨a,b,c⟩,_⟩:=x;obtain⟨⟨a',b',c'⟩,_⟩:=y;simp only[jw,List.cons.injEq,AV.int.injEq,AV.agg.injEq,true_and,and_true]at h;obtain⟨h0,h1,rfl⟩:=h;obtain rfl:=BR _ _ h1;obtain rfl:=EG h0;rfl
theorem sort_to (d:Nat) (ds:List DT) (t:KT) (vars:Int) (h:Wo t=d+1) (hs:Wa t<=1000) (iE:ds.length<=1000) (hx:lay Kr 161 jw sb (fun p=>Wo p.1.2.1) d 161 [We ds,.agg (Cm t),.int .i64 vars]=none):
 Cc (EK (lay Kr 161 jw sb (fun p=>Wo p.1.2.1) d)) 161 [We ds,.agg (Cm t),.int .i64 vars] S0 (.bool (Y1 ds vars t)):=by
 obtain⟨o,n,ks⟩:=t;have rZ:Xq ks<=d:=by have:Xq ks+1=d+1:=h;omega
 have Xn:Wj ks+1<=1000:=hs;have fX:=DX ks;rw[DN]at hx|-;refine Fz (fn:=Tryz.f161) U hx (by kernel_rfl) U U U U ?_;have hb:Y1 ds vars (.mk o n ks)=(Y0 ds vars o n ks.length&&eC ds vars ks):=rfl;have Z4:Y0 ds vars o n ks.length=false->Y1 ds vars (.mk o n ks)=false:=fun h=>by rw[hb,h];rfl
 have key:∀(p:Int),partsOf ds vars o n=some p->Y0 ds vars o n ks.length=decide ((ks.length:Int)=p):=fun p h=>by
  unfold Y0;rw[h];by_cases e:(ks.length:Int)=p
  .rw[e,decide_eq_true rfl];simp
  .rw[decide_eq_false e];simp only[beq_eq_false_iff_ne,ne_eq,Option.some.injEq];exact fun h=>e h.symm
 refine Eh U<|Ew U<|Sq<|Eh U ?_;refine HN (fun p:Int=>([(7,.int .i64 p),(4,.ptr 0 0),(2,.int .i64 vars),(0,We ds)],Xj 1 0 [] [(0,some (.cells [.int .i64 o,.int .i64 n,CM Cm 3 ks] 26 false))])) (fun p=>partsOf ds vars o n=some p) ?_ ?_
 .have bad:partsOf ds vars o n=none->false=Y1 ds vars (.mk o n ks):=fun h=>(Z4 (by unfold Y0;rw[h];rfl)).symm;clear Z4 hb key;focus
   refine Sb<|Ew U ?_;refine Cd U (fun h1=>?_) (fun h1=>?_);refine Es<|Ls 4 U ?_;refine Bd U (fun h2=>?_) (fun h2=>?_);refine Lw U<|Tt U<|Ew U ?_;refine Se (Er U ?_);refine Ab ?_;rotate_left;refine Lx U ?_;refine Cd U (fun h3=>?_) (fun h3=>?_);refine Ew U ?_;refine Se (Er U ?_);refine Ab ?_;rotate_left;refine Sk ?_;rotate_left;refine Ew U ?_;refine Cd U (fun h4=>?_) (fun h4=>?_);refine Eh U ?_;refine Ce U (fun h5=>?_) (fun h5=>?_);refine Ew U ?_;refine Se (Er U ?_);refine Ab ?_;rotate_left;refine Sk ?_;rotate_left;refine Ew U ?_;refine Cd U (fun h6=>?_) (fun h6=>?_);refine Sq<|Eh U ?_;refine Ce U (fun h7=>?_) (fun h7=>?_);refine Ew U ?_;refine Se (Er U ?_);refine Ab ?_;rotate_left;refine Sk<|Sr<|Lw U ?_;rotate_left;refine Ew U ?_;refine Cd U (fun h8=>?_) (fun h8=>?_);refine Sq<|Es<|Ls 4 U ?_;refine Bd U (fun h9=>?_) (fun h9=>?_);refine Lw U<|Tt U<|Ew U ?_;refine Se (Er U ?_);refine Ab ?_
   rotate_left;refine Lx U ?_;refine Cd U (fun yn=>?_) (fun yn=>?_);refine Ew U ?_;refine Se (Er U ?_);refine Ab ?_;rotate_left;refine Sk<|Sr<|Ls 3 U ?_;rotate_left;refine Ew U ?_;refine Se (Er U ?_);refine Ab ?_;rotate_left
  .exact bad (by unfold partsOf;grind)
  .exact bad (by unfold partsOf;grind)
  .exact⟨U,0,by unfold partsOf;grind,U,Ah (by repeat' constructor)⟩
  .exact bad (by unfold partsOf;grind)
  .exact⟨U,0,by unfold partsOf;grind,U,Ah (by repeat' constructor)⟩
  .exact bad (by unfold partsOf;grind)
  .exact⟨U,2,by unfold partsOf;grind,U,Ah (by repeat' constructor)⟩
  .exact bad (by unfold partsOf;grind)
  .exact bad (by unfold partsOf;grind)
  .obtain⟨m,rfl⟩:=Int.eq_ofNat_of_zero_le (by omega:0<=n);have hm:m<ds.length:=by omega
   have Yz:=A9 AS hm;unfold Y9 at Yz;refine Lq (kv U Yz) U<|Lw U ?_;refine⟨U,ds[m].params,?_,U,Ah (by repeat' constructor)⟩;unfold partsOf;rw[if_neg (by omega),if_neg (by omega),if_neg (by omega),if_pos (by omega),if_pos (by omega),Int.toNat_natCast,Qi hm];rfl
  .exact bad (by unfold partsOf;grind)
 .intro p hp;have hk:=key p hp;dsimp only;clear key;focus
   refine Sq<|Eh U ?_;refine Ce U (fun h1=>?_) (fun h1=>?_);refine Ew U ?_;refine Se (Er U ?_);refine Ab ?_;rotate_left;refine Sk<|Sq<|Ew U<|Sb ?_;rotate_left
  .exact(Z4 (by rw[hk];exact decide_eq_false h1)).symm
  .obtain rfl:p=(ks.length:Nat):=by omega
   have hy:Y1 ds vars (.mk o n ks)=ks.all (Y1 ds vars):=by rw[hb,hk,decide_eq_true rfl,Bool.true_and,Gw]
   refine Ai (fun i:Nat=>([(8,.int .i64 (i:Nat)),(7,.int .i64 (ks.length:Nat)),(4,.ptr 0 0),(2,.int .i64 vars),(0,We ds)],Xj 1 0 [] [(0,some (.cells [.int .i64 o,.int .i64 n,CM Cm 3 ks] 26 false))])) (fun i=>ks.length-i)
    (fun i=>i<=ks.length/\∀j (hj:j<ks.length),j<i->Y1 ds vars ks[j]=true) 0 ⟨Qm _,fun _ _ h=>absurd h (Nat.not_lt_zero _)⟩ rfl (Ah (by repeat' constructor)) ?_
   rintro i ⟨hi,ha⟩;by_cases h:i<ks.length
   .have Yz:=EF h;have pQ:=Gx (List.getElem_mem h);have jU:lay Kr 161 jw sb (fun p=>Wo p.1.2.1) d 161 [We ds,.agg (Cm ks[i]),.int .i64 vars]=some (.bool (Y1 ds vars ks[i])):=H8 Jw ⟨(ds,ks[i],vars),by dsimp only;omega,iE⟩ (Nat.le_trans (BG (List.getElem_mem h)) rZ);rw[AA]at jU Yz;focus
     refine Sq<|Ew U ?_;refine Cd U (fun h2=>?_) (fun h2=>?_);refine Sk<|Sq<|Sb<|Es<|Ls 4 U<|Lq (kv U Yz) U<|Lv 2 U ?_;refine Lo (kc U (jU)) U<|Lw U ?_;refine Cn U (fun h3=>?_) (fun h3=>?_);refine Ew U ?_;refine Se (Er U ?_);refine Ab ?_;rotate_left;refine Sk<|Sr<|qm U ?_;refine Lq (ka (b:=1) U (by omega)) U ?_;refine Lw U ?_;rotate_left;exact absurd h2 (by omega)
    .rw[hy,Ij h h3]
    .exact⟨i+1,⟨h,DH (P:=fun t=>Y1 ds vars t=true) (h:=h) ha h3⟩,by show ks.length-(i+1)<ks.length-i;omega,rfl,rfl,Ah (by repeat' constructor)⟩
   .focus
     refine Sq<|Ew U ?_;refine Cd U (fun h2=>?_) (fun h2=>?_);exact absurd h2 (by omega);refine Sx<|A8 U<|Ew U ?_;refine Se (Er U ?_);refine Ab ?_;rotate_left
    rw[hy,EC fun j hj=>ha j hj (by omega)]
noncomputable def Ks:=W7 Kr 161 jw sb
theorem hq_161 {ds:List DT} {t:KT} {vars:Int} (hs:Wa t<=1000) (hd:ds.length<=1000):Ks 161 [We ds,.agg (Cm t),.int .i64 vars]=some (.bool (Y1 ds vars t)):=An (enc:=jw) (fun a b h=>by rw[Jw a b h]) ⟨(ds,t,vars),hs,hd⟩
theorem alls (h:Wq Tryz.prog 8 [] (.bool true)):Cq Tryz.prog gn Ks:=
 rX (deep:=fun p:SoT=>Wo p.1.2.1) Ax Aj (allr h) Jw (fun p=>Iz p.1.2.1) (fun p=>by
  show(Cj 40 (We p.1.1)&&(AV.agg (Cm p.1.2.1)::[.int .i64 p.1.2.2]).all (Cj 40))=true;rw[Ed,Br _ _ rfl];rfl) (fun _=>rfl) fun d p hp hx=>sort_to d p.1.1 p.1.2.1 p.1.2.2 hp p.2.1 p.2.2 hx
def CG (ds:List DT) (vars:Int) (t:KT):Bool:=decide (0<=oq t 20)&&Y1 ds vars t
abbrev BeT:= {p:List DT×KT×Int//p.1.length<=1000}
def pD (p:BeT):List AV:=[We p.1.1,.agg (Cm p.1.2.1),.int .i64 p.1.2.2]
theorem Vm (x y:BeT) (h:pD x=pD y):x=y:=by
 obtain⟨⟨a,b,c⟩,_⟩:=x;obtain⟨⟨a',b',c'⟩,_⟩:=y;simp only[pD,List.cons.injEq,AV.int.injEq,AV.agg.injEq,true_and,and_true]at h;obtain⟨h0,h1,rfl⟩:=h;obtain rfl:=BR _ _ h1;obtain rfl:=EG h0;rfl
theorem wK (ds:List DT) (t:KT) (vars:Int) (iE:ds.length<=1000):Cc (EK Ks) 95 [We ds,.agg (Cm t),.int .i64 vars] S0 (.bool (CG ds vars t)):=by
 have dc:Ks 18 [.agg (Cm t),.int .i64 20]=some (.int .i64 (oq t 20)):=hq_18 (by decide) (by decide);unfold CG;have hs:=Gr t 20;have hitS:Wa t<=1000->Ks 161 [We ds,.agg (Cm t),.int .i64 vars]=some (.bool (Y1 ds vars t)):=fun h=>hq_161 h iE;rw[AA]at dc hitS|-;refine As U ?_;generalize oq t 20=w at*;by_cases hw:0<=w
 .have jU:=hitS (by have:=hs hw;omega);focus
   refine Eh U<|Es<|Ls 1 U ?_;refine Lo (kc U (dc)) U<|Lv 2 U ?_;refine Bd U (fun h1=>?_) (fun h1=>?_);refine Ls 3 U ?_;refine Lg U U (kc U (jU))<|Lw U ?_;refine Se (Er U ?_);refine Ab ?_;rotate_left;exact absurd h1 (by omega)
  rw[decide_eq_true hw];rfl
 .focus
   refine Eh U<|Es<|Ls 1 U ?_;refine Lo (kc U (dc)) U<|Lv 2 U ?_;refine Bd U (fun h1=>?_) (fun h1=>?_);exact absurd h1 (by omega);refine Lw U ?_;refine Se (Er U ?_);refine Ab ?_;rotate_left
  rw[decide_eq_false hw];rfl
noncomputable def Kt:=W7 Ks 95 pD (fun p=> .bool (CG p.1.1 p.1.2.2 p.1.2.1))
theorem hq_95 {ds:List DT} {t:KT} {vars:Int} (hd:ds.length<=1000):Kt 95 [We ds,.agg (Cm t),.int .i64 vars]=some (.bool (CG ds vars t)):=An (enc:=pD) (fun a b h=>by rw[Vm a b h]) ⟨(ds,t,vars),hd⟩
def X3 (t:KT):Bool:=decide (0<=oq t 26)
def wL (t:KT):List AV:=[.agg (Cm t)]
theorem Ve (x y:KT) (h:wL x=wL y):x=y:=BR _ _ (AV.agg.inj (List.cons.inj h).1)
theorem Tq (t:KT):Cc (EK Kt) 7 [.agg (Cm t)] S0 (.bool (X3 t)):=by
 have dc:Kt 18 [.agg (Cm t),.int .i64 26]=some (.int .i64 (oq t 26)):=hq_18 (by decide) (by decide);unfold X3;rw[AA]at dc|-;refine As U<|Eh U<|Es<|Ls 1 U ?_;refine Lo (kc U (dc)) U<|Lw U ?_;refine Se (Er U ?_);exact Ab U
noncomputable def Ku:=W7 Kt 7 wL (fun t=> .bool (X3 t))
theorem hq_7 {t:KT}:Ku 7 [.agg (Cm t)]=some (.bool (X3 t)):=An (fun a b h=>by rw[Ve a b h]) t
theorem allu (h:Wq Tryz.prog 8 [] (.bool true)):Cq Tryz.prog gn Ku:=by
 have a1:Cq Tryz.prog gn Kt:=A3 Ax Aj (alls h) (fun p:BeT=>wK p.1.1 p.1.2.1 p.1.2.2 p.2) (fun p=>by
  show(Cj 40 (We p.1.1)&&(AV.agg (Cm p.1.2.1)::[.int .i64 p.1.2.2]).all (Cj 40))=true;rw[Ed,Br _ _ rfl];rfl) (fun _=>rfl)
 exact A3 Ax Aj a1 Tq (fun t=>Br _ _ U) (fun _=>rfl)
def XA (n:Int):Bool:=C5 97 122 n||C5 65 90 n
def aj (w:List UInt8):Bool:=decide (tw XA w=w.length)&&(decide (1<=w.length)&&decide (w.length<=8))
theorem Pt {w:List UInt8} (h:tw XA w<w.length):aj w=false:=by
 unfold aj;rw[decide_eq_false (by omega)];rfl
theorem KS (n:Int):XA n=true↔(97<=n/\n<=122)\/(65<=n/\n<=90):=by
 unfold XA C5;simp only[Bool.or_eq_true,Qf,decide_eq_true_eq]
theorem Ut {n:Int} (h:(97<=n/\n<=122)\/(65<=n/\n<=90)):XA n=true:=(KS n).2 h
theorem Sg {n:Int} (h:¬((97<=n/\n<=122)\/(65<=n/\n<=90))):XA n=false:=by
 cases hb:XA n with
 |false=>rfl
 |true=>exact absurd ((KS n).1 hb) h
theorem GM {w:List UInt8} {i:Nat} (hi:i<=tw XA w) (h:i<w.length) (hn:¬((97<=((w.getD i 0).toNat:Int)/\((w.getD i 0).toNat:Int)<=122)\/(65<=((w.getD i 0).toNat:Int)/\((w.getD i 0).toNat:Int)<=90))):aj w=false:=
 Pt (by
  have:=(EM hi h).2;have:¬i<tw XA w:=fun Co=>by rw[Sg hn]at this;exact absurd (this Co) (by decide)
  omega)
theorem H5 {w:List UInt8} {i:Nat} (hi:i<=tw XA w) (h:i<w.length) (hn:(97<=((w.getD i 0).toNat:Int)/\((w.getD i 0).toNat:Int)<=122)\/(65<=((w.getD i 0).toNat:Int)/\((w.getD i 0).toNat:Int)<=90)):i+1<=tw XA w:=(EM hi h).1 (Ut hn)
theorem Pm (w:List UInt8) (hw:w.length<=100000):Cc (EK Ku) 94 [.str w] S0 (.bool (aj w)):=by
 have hle:=Et XA w;refine As U<|Ew U<|Sq<|Ew U<|Sb ?_;refine Ai (fun i:Nat=>([(3,.int .i64 (i:Nat)),(0,.str w)],Xj 0 0 [] [])) (fun i=>w.length-i) (fun i=>i<=tw XA w) 0 (Qm _) U (Ah (by repeat' constructor)) fun i hi=>?_;by_cases h:i<w.length
 .focus
   refine Sq<|Es<|Lv 2 U<|Lq (Ac U U U U CT U) U<|Lw U ?_;refine Cd U (fun h1=>?_) (fun h1=>?_);refine Sk<|Sq<|Sb<|Es<|Lv 2 U ?_;refine Lq (A0 U CT U U (by omega)) U ?_;refine Lv 2 U ?_;refine Bd U (fun h2=>?_) (fun h2=>?_);refine Lv 2 U ?_;refine Lh U U (A0 U CT U U (by omega)) ?_;refine Lv 3 U ?_;refine Bd U (fun h3=>?_) (fun h3=>?_);refine Lw U<|Tf U<|Sk<|Sr<|qm U ?_;refine Lq (ka (b:=1) U (by omega)) U ?_;refine Lw U ?_;rotate_left;refine Lv 2 U ?_;refine Lh U U (A0 U CT U U (by omega)) ?_;refine Lv 2 U ?_;refine Bd U (fun h4=>?_) (fun h4=>?_);refine Lv 2 U ?_;refine Lh U U (A0 U CT U U (by omega)) ?_;refine Lw U ?_;refine Ce U (fun h5=>?_) (fun h5=>?_);refine Ew U ?_;refine Se (Er U ?_);refine Ab ?_;rotate_left;exact absurd h5 (by omega);exact absurd h4 (by omega);refine Lv 8 U ?_;refine Lh U U (A0 U CT U U (by omega)) ?_;refine Lv 2 U ?_;refine Bd U (fun h6=>?_) (fun h6=>?_)
   refine Lv 2 U ?_;refine Lh U U (A0 U CT U U (by omega)) ?_;refine Lw U ?_;refine Ce U (fun h7=>?_) (fun h7=>?_);refine Ew U ?_;refine Se (Er U ?_);refine Ab ?_;rotate_left;refine Sk<|Sr<|qm U ?_;refine Lq (ka (b:=1) U (by omega)) U ?_;refine Lw U ?_;rotate_left;refine Lw U<|Tt U<|Ew U ?_;refine Se (Er U ?_);refine Ab ?_;rotate_left;exact absurd h1 (by omega)
  .exact⟨i+1,H5 hi h (by omega),by show w.length-(i+1)<w.length-i;omega,U,U,Ah (by repeat' constructor)⟩
  .exact(GM hi h (by omega)).symm
  .exact(GM hi h (by omega)).symm
  .exact⟨i+1,H5 hi h (by omega),by show w.length-(i+1)<w.length-i;omega,U,U,Ah (by repeat' constructor)⟩
  .exact(GM hi h (by omega)).symm
 .have e:tw XA w=w.length:=by omega
  unfold aj;rw[decide_eq_true e];focus
   refine Sq<|Es<|Lv 2 U<|Lq (Ac U U U U CT U) U<|Lw U ?_;refine Cd U (fun h1=>?_) (fun h1=>?_);exact absurd h1 (by omega);refine Sx<|A8 U<|Es<|qm U<|Lq (Ac U U U U CT U) U<|Lv 2 U ?_;refine Bd U (fun h2=>?_) (fun h2=>?_);refine Lv 1 U<|Lh U U (Ac U U U U CT U)<|Lw U ?_;refine Se (Er U ?_);refine Ab ?_;rotate_left;refine Lw U ?_;refine Se (Er U ?_);refine Ab ?_;rotate_left
  .rw[decide_eq_true (show 1<=w.length by omega),show decide ((w.length:Int)<=8)=decide (w.length<=8)from decide_eq_decide.2 (by omega)];rfl
  .rw[decide_eq_false (show¬1<=w.length by omega)];rfl
def eD (c:List KT):Bool:=decide (c.length<=6)&&c.all X3
def de (d:DT):Bool:=(decide (d.name.length<=20)&&decide (d.cons.length<=15))&&d.cons.all eD
def CD (ds:List DT):Bool:=decide (ds.length<=8)&&ds.all de
theorem R1 (ds:List DT):Cc (EK Ku) 6 [We ds] S0 (.bool (CD ds)):=by
 refine As U ?_;have no:∀(i:Nat) (h:i<ds.length),de ds[i]=false->false=CD ds:=fun i h hd=>by unfold CD;rw[Ij h hd,Bool.and_false]
 focus
  refine Ew U<|Sq<|Ew U ?_;refine Cd U (fun h1=>?_) (fun h1=>?_);refine Ew U ?_;refine Se (Er U ?_);refine Ab ?_;rotate_left;refine Sk<|Sq<|Ew U<|Sb ?_;rotate_left
 .unfold CD;rw[decide_eq_false (by omega)];rfl
 refine Ai (fun i:Nat=>([(3,.int .i64 (i:Nat)),(0,We ds)],Xj 0 0 [] [])) (fun i=>ds.length-i) (fun i=>i<=ds.length/\∀j (hj:j<ds.length),j<i->de ds[j]=true) 0 ⟨Qm _,fun _ _ h=>absurd h (Nat.not_lt_zero _)⟩ U (Ah (by repeat' constructor)) ?_;rintro i ⟨hi,ha⟩;by_cases h:i<ds.length
 .have Yz:=A9 AS h;unfold Y9 at Yz;have noC:∀(k:Nat) (hk:k<ds[i].cons.length),eD ds[i].cons[k]=false->false=CD ds:=fun k hk hc=>no i h (by unfold de;rw[Ij hk hc,Bool.and_false]);focus
   refine Sq<|Ew U ?_;refine Cd U (fun h2=>?_) (fun h2=>?_);refine Sk<|Sq<|Sb<|Sq<|Es<|Lv 2 U<|Lq (kv U Yz) U<|Lv 2 U<|Lq (Ac U U U U CT U) U<|Lv 2 U ?_;refine Bd U (fun h3=>?_) (fun h3=>?_);refine Lw U<|Tt U<|Ew U ?_;refine Se (Er U ?_);refine Ab ?_;rotate_left;refine Lv 2 U<|Lh U U (kv U Yz)<|Lw U ?_;refine Cd U (fun h4=>?_) (fun h4=>?_);refine Ew U ?_;refine Se (Er U ?_);refine Ab ?_;rotate_left;refine Sk<|Ew U<|Sb ?_;rotate_left;exact absurd h2 (by omega)
  .exact no i h (by unfold de;rw[decide_eq_false (by omega)];rfl)
  .exact no i h (by unfold de;rw[decide_eq_false (show¬ds[i].cons.length<=15 by omega),Bool.and_false];rfl)
  refine Ai (fun k:Nat=>([(4,.int .i64 (k:Nat)),(3,.int .i64 (i:Nat)),(0,We ds)],Xj 0 0 [] [])) (fun k=>ds[i].cons.length-k) (fun k=>k<=ds[i].cons.length/\∀j (hj:j<ds[i].cons.length),j<k->eD ds[i].cons[j]=true) 0 ⟨Qm _,fun _ _ h=>absurd h (Nat.not_lt_zero _)⟩ U (Ah (by repeat' constructor)) ?_;rintro k ⟨hk,hka⟩;by_cases l4:k<ds[i].cons.length
  .have oR:=A9 DD l4;unfold XS at oR;focus
    refine Sq<|Es<|Lv 3 U<|Lq (kv U Yz) U<|Lw U ?_;refine Cd U (fun h5=>?_) (fun h5=>?_);refine Sk<|Sq<|Sb<|Sq<|Es<|Lv 2 U<|Lq (kv U Yz) U<|Lv 3 U<|Lq (kv U oR) U<|Lw U ?_;refine Cd U (fun h6=>?_) (fun h6=>?_);refine Ew U ?_;refine Se (Er U ?_);refine Ab ?_;rotate_left;refine Sk<|Ew U<|Sb ?_;rotate_left;exact absurd h5 (by omega)
   .exact noC k l4 (by unfold eD;rw[decide_eq_false (by omega)];rfl)
   refine Ai (fun j:Nat=>([(5,.int .i64 (j:Nat)),(4,.int .i64 (k:Nat)),(3,.int .i64 (i:Nat)),(0,We ds)],Xj 0 0 [] [])) (fun j=>ds[i].cons[k].length-j) (fun j=>j<=ds[i].cons[k].length/\∀m (hm:m<ds[i].cons[k].length),m<j->X3 ds[i].cons[k][m]=true) 0 ⟨Qm _,fun _ _ h=>absurd h (Nat.not_lt_zero _)⟩ U (Ah (by repeat' constructor)) ?_;rintro j ⟨hj,hja⟩;by_cases hjl:j<ds[i].cons[k].length
   .have hjd:=EF hjl;have my:Ku 7 [.agg (Cm ds[i].cons[k][j])]=some (.bool (X3 ds[i].cons[k][j])):=hq_7;rw[AA]at my hjd;focus
     refine Sq<|Es<|Lv 3 U<|Lq (kv U Yz) U<|Lv 3 U<|Lq (kv U oR) U<|Lw U ?_;refine Cd U (fun h7=>?_) (fun h7=>?_);refine Sk<|Sq<|Sb<|Es<|Lv 2 U<|Lq (kv U Yz) U<|Lv 3 U<|Lq (kv U oR) U<|Lv 2 U<|Lq (kv U hjd) U<|Lv 1 U ?_;refine Lo (kc U (my)) U<|Lw U ?_;refine Cn U (fun h8=>?_) (fun h8=>?_);refine Ew U ?_;refine Se (Er U ?_);refine Ab ?_;rotate_left;refine Sk<|Sr<|qm U ?_;refine Lq (ka (b:=1) U (by omega)) U ?_;refine Lw U ?_;rotate_left;exact absurd h7 (by omega)
    .exact noC k l4 (by unfold eD;rw[Ij hjl h8,Bool.and_false])
    .exact⟨j+1,⟨hjl,DH (P:=fun t=>X3 t=true) (h:=hjl) hja h8⟩,by show ds[i].cons[k].length-(j+1)<ds[i].cons[k].length-j;omega,rfl,rfl,Ah (by repeat' constructor)⟩
   .focus
     refine Sq<|Es<|Lv 3 U<|Lq (kv U Yz) U<|Lv 3 U<|Lq (kv U oR) U<|Lw U ?_;refine Cd U (fun h7=>?_) (fun h7=>?_);exact absurd h7 (by omega);refine Sx<|A8 U<|Sr<|qm U ?_;refine Lq (ka (b:=1) U (by omega)) U ?_;refine Lw U ?_;rotate_left
    refine⟨k+1,⟨l4,DH (P:=fun c=>eD c=true) (h:=l4) hka ?_⟩,by show ds[i].cons.length-(k+1)<ds[i].cons.length-k;omega,rfl,rfl,Ah (by repeat' constructor)⟩;unfold eD;rw[decide_eq_true (by omega),EC fun m hm=>hja m hm (by omega)];rfl
  .focus
    refine Sq<|Es<|Lv 3 U<|Lq (kv U Yz) U<|Lw U ?_;refine Cd U (fun h5=>?_) (fun h5=>?_);exact absurd h5 (by omega);refine Sx<|A8 U<|Sr<|qm U ?_;refine Lq (ka (b:=1) U (by omega)) U ?_;refine Lw U ?_;rotate_left
   refine⟨i+1,⟨h,DH (P:=fun d=>de d=true) (h:=h) ha ?_⟩,by show ds.length-(i+1)<ds.length-i;omega,rfl,rfl,Ah (by repeat' constructor)⟩;unfold de;rw[decide_eq_true (by omega),decide_eq_true (by omega),EC fun m hm=>hka m hm (by omega)];rfl
 .focus
   refine Sq<|Ew U ?_;refine Cd U (fun h2=>?_) (fun h2=>?_);exact absurd h2 (by omega);refine Sx<|A8 U<|Ew U ?_;refine Se (Er U ?_);refine Ab ?_;rotate_left
  unfold CD;rw[decide_eq_true (by omega),EC fun m hm=>ha m hm (by omega)];rfl
noncomputable def Kv:=W7 Ku 94 ZY (fun w=> .bool (aj w.1))
theorem hq_94 {w:List UInt8} (hw:w.length<=100000):Kv 94 [.str w]=some (.bool (aj w)):=An (enc:=ZY) (fun a b h=>by rw[Ea a b h]) ⟨w,hw⟩
def wM (ds:List DT):List AV:=[We ds]
theorem Vj (a b:List DT) (h:wM a=wM b):a=b:=EG (List.cons.inj h).1
noncomputable def Kw:=W7 Kv 6 wM (fun ds=> .bool (CD ds))
theorem hq_6 {ds:List DT}:Kw 6 [We ds]=some (.bool (CD ds)):=An (fun a b h=>by rw[Vj a b h]) ds
theorem allw (h:Wq Tryz.prog 8 [] (.bool true)):Cq Tryz.prog gn Kw:=by
 have a1:Cq Tryz.prog gn Kv:=A3 Ax Aj (allu h) (fun w:Str=>Pm w.1 w.2) (fun _=>rfl) (fun _=>rfl);exact A7 a1 fun ds=>AP Ax Aj (allu h) (R1 ds) U U
theorem Da {ds:List DT} (h:CD ds=true):ds.length<=8/\∀i (hi:i<ds.length),ds[i].name.length<=20/\ds[i].cons.length<=15/\∀k (hk:k<ds[i].cons.length),ds[i].cons[k].length<=6:=by
 unfold CD at h;rw[Qf,decide_eq_true_eq]at h;refine⟨h.1,fun i hi=>?_⟩;have h2:=List.all_eq_true.1 h.2 _ (List.getElem_mem hi);unfold de at h2;rw[Qf,Qf,decide_eq_true_eq,decide_eq_true_eq]at h2;refine⟨h2.1.1,h2.1.2,fun k hk=>?_⟩;have h3:=List.all_eq_true.1 h2.2 _ (List.getElem_mem hk);unfold eD at h3;rw[Qf,decide_eq_true_eq]at h3;exact h3.1
def ZU (ds:List DT) (n:Nat):Nat:=((ds.take n).map fun d=>d.cons.length).sum
theorem FK {ds:List DT} {i:Nat} (h:i<ds.length):ZU ds (i+1)=ZU ds i+ds[i].cons.length:=by
 unfold ZU;rw[List.take_add_one,Qi h,Option.toList_some,List.map_append,List.sum_append];simp
theorem SB (ds:List DT) {i j:Nat} (h:i<=j) (hj:j<=ds.length):ZU ds i<=ZU ds j:=by
 induction j with
 |zero=>
  obtain rfl:i=0:=by omega
  exact Qj _
 |succ j ih=>
  rcases Nat.lt_or_ge i (j+1)with h1|h1
  .have:=ih (by omega) (by omega);rw[FK (by omega)];omega
  .obtain rfl:i=j+1:=by omega
   exact Qj _
def aR (d:DT):Bool:=Cp d.name [66,111,111,108]&&(decide (d.params=0)&&(decide (d.cons.length=2)&&decide ((d.cons.getD 0 []).length+(d.cons.getD 1 []).length=0)))
def jD (d:DT):Bool:=aj d.name&&(decide (0<=d.params)&&(decide (d.params<=3)&&decide (1<=d.cons.length)))
def tg (ds:List DT) (p:Int) (c:List KT):Bool:=decide (c.length<=4)&&c.all (CG ds p)
structure iy (ds:List DT):Prop where
 hi:ds.length<=6
 head:∃d l,ds=d::l/\aR d=true
 each:∀i (h:i<ds.length),jD ds[i]=true
 apart:∀i (h:i<ds.length),∀j (hj:j<ds.length),j<i->ds[j].name≠ds[i].name
 sum:ZU ds ds.length<=12
 cons:∀i (h:i<ds.length),ds[i].cons.all (tg ds ds[i].params)=true
noncomputable def Xr (ds:List DT):Bool:= @decide (iy ds) (Classical.propDecidable _)
theorem Bu {ds:List DT} (h:¬iy ds):false=Xr ds:=by
 unfold Xr;exact(@decide_eq_false _ (Classical.propDecidable _) h).symm
theorem Oz {ds:List DT} (h:iy ds):true=Xr ds:=by
 unfold Xr;exact(@decide_eq_true _ (Classical.propDecidable _) h).symm
theorem VE {α:Type} {l:List α} {P:α->Prop} (h:∀j (hj:j<l.length),P l[j]):∀x∈l,P x:=fun x hx=>by
 obtain⟨j,hj,rfl⟩:=List.mem_iff_getElem.1 hx;exact h j hj
theorem TC (ds:List DT) (hs:CD ds=true):Cc (EK Kw) 38 [We ds] S0 (.bool (Xr ds)):=by
 obtain⟨hl,XT⟩:=Da hs;refine As U ?_;by_cases h0:ds=[]
 .subst h0;refine Ew U<|Sq<|Ag (by kernel_rfl)<|Nw U<|Tt U<|Ew U ?_;refine Se (Er U ?_);refine Ab ?_;exact Bu fun h=>by obtain⟨d,l,h,_⟩:=h.head;cases h
 obtain⟨⟨nm,ps,cs⟩,rest,iE⟩:∃d l,ds=d::l:=by
  cases ds with
  |nil=>exact absurd rfl h0
  |cons d l=>exact⟨d,l,rfl⟩
 have fP:0<ds.length:=by rw[iE];exact Nat.zero_lt_succ _
 have dg:CC (2+1) 0 (We ds)=some (.Wl ([.str nm,.int .i64 ps,CM XS 1 cs]++rest.flatMap Y9)):=by rw[iE];exact A9 AS (Nat.zero_lt_succ _)
 have hsm0:=XT 0 fP;simp only[iE,List.getElem_cons_zero]at hsm0;have gf:aR ⟨nm,ps,cs⟩=false->false=Xr ds:=fun h=>Bu fun hD=>by
  obtain⟨d,l,e,h2⟩:=hD.head;rw[iE]at e;cases e;rw[h]at h2;cases h2
 by_cases hc:cs.length=2
 .obtain⟨c0,c1,rfl⟩:∃c0 c1,cs=[c0,c1]:=by
   match cs,hc with
   | [a,b],_=>exact⟨a,b,rfl⟩
  have zJ:CC (0+1) 0 (CM XS 1 [c0,c1])=some (.Wl ([CM Cm 3 c0]++[c1].flatMap XS)):=A9 DD (l:=[c0,c1]) (i:=0) (Nat.zero_lt_succ _);have rb:CC (0+1) 1 (CM XS 1 [c0,c1])=some (.Wl ([CM Cm 3 c1]++([]:List (List KT)).flatMap XS)):=A9 DD (l:=[c0,c1]) (i:=1) (Nat.lt_succ_self _);have h60:c0.length<=6:=hsm0.2.2 0 (Nat.zero_lt_succ _);have h61:c1.length<=6:=hsm0.2.2 1 (Nat.lt_succ_self _);focus
   refine Ew U<|Sq<|Ag (by kernel_rfl)<|Nv 4 U ?_;refine Dd U (fun h1=>?_) (fun h1=>?_);exact absurd h1 (by omega);refine Nv 5 U ?_;refine Dd U (fun h2=>?_) (fun h2=>?_);refine Nw U<|Tt U<|Ew U ?_;refine Se (Er U ?_);refine Ab ?_;rotate_left;refine Nv 1 U<|Nz (kv (k:=0) U dg) U U<|Nv 2 U<|Nz (A2 U CT U U U U) U U<|Nv 2 U ?_;refine Db U (fun g3=>?_) (fun g3=>?_);have h3:=bnT g3;refine Nw U<|Tt U<|Ew U ?_;refine Se (Er U ?_);refine Ab ?_;rotate_left;have h3:=bnF g3;refine Nv 1 U<|Nz (kv (k:=0) U dg) U U<|Nv 5 U ?_;refine Db U (fun g4=>?_) (fun g4=>?_);have h4:=nT g4;refine Nw U<|Tt U<|Ew U ?_;refine Se (Er U ?_);refine Ab ?_;rotate_left;have h4:=nF g4;refine Nv 1 U<|Nz (kv (k:=0) U dg) U U<|Nv 7 U<|Nz (kv (k:=0) U dg) U U<|Nv 2 U ?_;refine Nz (Dc (k:=0) U zY JU U U (by omega) U) U U ?_;refine Nv 3 U<|Nz (kv (k:=0) U dg) U U<|Nv 2 U ?_
   refine Nz (Dc (k:=1) U zY JU U U (by omega) U) U U ?_;refine Nv 2 U ?_;refine Nz (ka U (by omega)) U U ?_;refine Nw U ?_;refine Ce U (fun h5=>?_) (fun h5=>?_);refine Ew U ?_;refine Se (Er U ?_);refine Ab ?_;rotate_left;refine Sk<|Ew U<|Sq<|Ew U<|Sb ?_;rotate_left
  .exact Bu fun h=>by have:=h.hi;omega
  .exact gf (by unfold aR;rw[show Cp nm [66,111,111,108]=false from Bool.eq_false_iff.2 fun h=>by rw[show Cp nm [66,111,111,108]=Cp nm _ from rfl]at h;simp_all];rfl)
  .exact gf (by unfold aR;rw[decide_eq_false h4];simp)
  .exact gf (by unfold aR;rw[decide_eq_false (show¬(([c0,c1].getD 0 []).length+([c0,c1].getD 1 []).length=0) by show¬c0.length+c1.length=0;omega)];simp)
  have head:∃d l,ds=d::l/\aR d=true:=by
   refine⟨_,_,iE,?_⟩;unfold aR;rw[decide_eq_true (show ps=0 by assumption),decide_eq_true (show(([c0,c1].getD 0 []).length+([c0,c1].getD 1 []).length=0) by show c0.length+c1.length=0;omega)]
   simp_all
  clear gf dg zJ rb hsm0;refine Ai (fun x:Nat×St=>([(4,.int .i64 (x.1:Nat)),(3,.int .i64 (ZU ds x.1:Nat)),(0,We ds)],x.2)) (fun x=>ds.length-x.1)
   (fun x=>x.1<=ds.length/\ZU ds x.1<=12/\x.2.bound=0/\x.2.log=[]/\(∀j (hj:j<ds.length),j<x.1->jD ds[j]=true/\(∀k (hk:k<ds.length),k<j->ds[k].name≠ds[j].name)/\ds[j].cons.all (tg ds ds[j].params)=true)) (0,_) ⟨Qm _,Qm _,rfl,rfl,fun _ _ h=>absurd h (Nat.not_lt_zero _)⟩ rfl (Ah (by repeat' constructor)) ?_
  rintro⟨i,st⟩ ⟨hi,nE,ZR,ZE,ha⟩;dsimp only at hi nE ZR ZE ha|-;by_cases h:i<ds.length
  .have Yz:=A9 AS h;obtain⟨hn20,hc15,hc6⟩:=XT i h;obtain⟨c1,c2,c3,c4,c5,c6,c7⟩:=Bg (st:=st) (z:=[.str [],.int .i64 0,.Ca]) (cs:=[.str ds[i].name,.int .i64 ds[i].params,CM XS 1 ds[i].cons]) (T:=54);have wN:Kw 94 [.str ds[i].name]=some (.bool (aj ds[i].name)):=hq_94 (by omega);have Wt:=FK h;unfold Y9 at Yz;have c6:=(c6 (by omega)).trans ZE;have c5:=c5.trans ZR;have noD:jD ds[i]=false->false=Xr ds:=fun hf=>Bu fun hD=>by have:=hD.each i h;rw[hf]at this;cases this
   focus
    refine Sq<|Ew U ?_;refine Cd U (fun h6=>?_) (fun h6=>?_);refine Sk<|Sq<|Sb<|Es<|Lv 2 U<|Lq (kv U Yz) U<|Lv 1 U<|Lo (kz U) U<|Ln (kw U c1 U) U<|Ld<|Sq<|Es<|Lv 1 U<|Lo (kl U c2 U) U ?_;refine Lo (kc U (wN)) U<|Lv 2 U ?_;refine Bn U (fun h7=>?_) (fun h7=>?_);refine Lw U<|Tt U<|Ew U ?_;refine Se ⟨.inl U,U,c6,c5,_,_,_,(Aa U U),U,U,?_⟩;refine Ab ?_;rotate_left;refine Lv 1 U<|Lg U U (kl U c2 U)<|Lv 3 U ?_;refine Bd U (fun h8=>?_) (fun h8=>?_);refine Lw U<|Tt U<|Ew U ?_;refine Se ⟨.inl U,U,c6,c5,_,_,_,(Aa U U),U,U,?_⟩;refine Ab ?_;rotate_left;refine Lv 1 U<|Lg U U (kl U c2 U)<|Lv 3 U ?_;refine Bd U (fun h9=>?_) (fun h9=>?_);refine Lw U<|Tt U<|Ew U ?_;refine Se ⟨.inl U,U,c6,c5,_,_,_,(Aa U U),U,U,?_⟩;refine Ab ?_;rotate_left;refine Lv 1 U<|Lg U U (kl U c2 U)<|Lw U ?_;refine Cd U (fun yn=>?_) (fun yn=>?_);refine Ew U ?_;refine Se ⟨.inl U,U,c6,c5,_,_,_,(Aa U U),U,U,?_⟩;refine Ab ?_
    rotate_left;refine Sk<|Sq<|Ew U<|Sb ?_;rotate_left;exact absurd h6 (by omega)
   .exact noD (by unfold jD;simp_all)
   .exact noD (by unfold jD;rw[decide_eq_false (show¬0<=ds[i].params by omega)];simp)
   .exact noD (by unfold jD;rw[decide_eq_false (show¬ds[i].params<=3 by omega)];simp)
   .exact noD (by unfold jD;rw[decide_eq_false (show¬1<=ds[i].cons.length by omega)];simp)
   have X2:jD ds[i]=true:=by
    unfold jD;rw[decide_eq_true (show 0<=ds[i].params by omega),decide_eq_true (show ds[i].params<=3 by omega),decide_eq_true (show 1<=ds[i].cons.length by omega)]
    simp_all
   clear noD wN;refine Aq fun sB W6=>?_;have e2:sB.heap.get st.next=some (.cells [.str ds[i].name,.int .i64 ds[i].params,CM XS 1 ds[i].cons] 54 false):=by rw[W6];exact c2
   have e5:sB.bound=0:=by rw[W6];exact c5
   have e6:sB.log=[]:=by rw[W6];exact c6
   clear c1 c2 c3 c4 c5 c6 c7 W6;refine Ai (fun k:Nat=>([(6,.int .i64 (k:Nat)),(5,.ptr st.next 0),(4,.int .i64 (i:Nat)),(3,.int .i64 (ZU ds i:Nat)),(0,We ds)],sB)) (fun k=>i-k) (fun k=>k<=i/\∀j (hj:j<ds.length),j<k->ds[j].name≠ds[i].name) 0 ⟨Qm _,fun _ _ h=>absurd h (Nat.not_lt_zero _)⟩ U (Ah (by repeat' constructor)) ?_;rintro k ⟨hk,hka⟩;by_cases oQ:k<i
   .have l4:k<ds.length:=by omega
    have oR:=A9 AS l4;unfold Y9 at oR;focus
     refine Sq<|Ew U ?_;refine Cd U (fun h11=>?_) (fun h11=>?_);refine Sk<|Sq<|Sb<|Ag (by kernel_rfl)<|Nv 2 U<|Nq (kv U oR) U<|Nv 3 U<|Nm U e2 U (.inl U) U<|Nq (A2 U CT U U U U) U<|BT ?_;refine Cb U (fun j7=>?_) (fun j7=>?_);have h12:=bT j7;refine Ew U ?_;refine Se ⟨.inl U,U,e6,e5,_,_,_,(Aa U U),U,U,?_⟩;refine Ab ?_;rotate_left;have h12:=bF j7;refine Sk<|Sr<|qm U ?_;refine Lq (ka (b:=1) U (by omega)) U ?_;refine Lw U ?_;rotate_left;exact absurd h11 (by omega)
    .exact Bu fun hD=>hD.apart i h k l4 oQ h12
    .exact⟨k+1,⟨oQ,fun j hj Co=>by
      rcases Nat.lt_or_ge j k with h1|h1
      .exact hka j hj h1
      .obtain rfl:j=k:=by omega
       assumption⟩,by show i-(k+1)<i-k;omega,rfl,rfl,Ah (by repeat' constructor)⟩
   .focus
     refine Sq<|Ew U ?_;refine Cd U (fun h11=>?_) (fun h11=>?_);exact absurd h11 (by omega);refine Sx<|A8 U<|Es<|Lv 2 U<|Lo (kl U e2 U) U<|Lv 1 U ?_;refine Lq (ka U (by omega)) U ?_;refine Lw U<|Sq<|Ew U ?_;refine Cd U (fun h12=>?_) (fun h12=>?_);refine Ew U ?_;refine Se ⟨.inl U,U,e6,e5,_,_,_,(Aa U U),U,U,?_⟩;refine Ab ?_;rotate_left;refine Sk<|Ew U<|Sb ?_;rotate_left
    .exact Bu fun hD=>by have:=SB ds (i:=i+1) (j:=ds.length) (by omega) (Qj _);have:=hD.sum;omega
    rw[<-Wt]at*;refine Ai (fun k:Nat=>([(7,.int .i64 (k:Nat)),(5,.ptr st.next 0),(4,.int .i64 (i:Nat)),(3,.int .i64 (ZU ds (i+1):Nat)),(0,We ds)],sB)) (fun k=>ds[i].cons.length-k) (fun k=>k<=ds[i].cons.length/\∀j (hj:j<ds[i].cons.length),j<k->tg ds ds[i].params ds[i].cons[j]=true) 0 ⟨Qm _,fun _ _ h=>absurd h (Nat.not_lt_zero _)⟩ U (Ah (by repeat' constructor)) ?_;rintro m ⟨hm,hma⟩;have noC:∀m (hm:m<ds[i].cons.length),tg ds ds[i].params ds[i].cons[m]=false->false=Xr ds:=fun m hm hf=>Bu fun hD=>by
     have:=List.all_eq_true.1 (hD.cons i h) _ (List.getElem_mem hm);rw[hf]at this;cases this
    by_cases sE:m<ds[i].cons.length
    .have hmd:=A9 DD sE;unfold XS at hmd;focus
      refine Sq<|Es<|Lv 2 U<|Lo (kl U e2 U) U<|Lw U ?_;refine Cd U (fun h13=>?_) (fun h13=>?_);refine Sk<|Sq<|Sb<|Sq<|Es<|Lv 1 U<|Lo (kl U e2 U) U<|qm U<|Lq (kv U hmd) U<|Lw U ?_;refine Cd U (fun h14=>?_) (fun h14=>?_);refine Ew U ?_;refine Se ⟨.inl U,U,e6,e5,_,_,_,(Aa U U),U,U,?_⟩;refine Ab ?_;rotate_left;refine Sk<|Ew U<|Sb ?_;rotate_left;exact absurd h13 (by omega)
     .exact noC m sE (by unfold tg;rw[decide_eq_false (by omega)];rfl)
     refine Ai (fun q:Nat=>([(8,.int .i64 (q:Nat)),(7,.int .i64 (m:Nat)),(5,.ptr st.next 0),(4,.int .i64 (i:Nat)),(3,.int .i64 (ZU ds (i+1):Nat)),(0,We ds)],sB)) (fun q=>ds[i].cons[m].length-q) (fun q=>q<=ds[i].cons[m].length/\∀j (hj:j<ds[i].cons[m].length),j<q->CG ds ds[i].params ds[i].cons[m][j]=true) 0 ⟨Qm _,fun _ _ h=>absurd h (Nat.not_lt_zero _)⟩ U (Ah (by repeat' constructor)) ?_;rintro q ⟨hq,hqa⟩;by_cases yb:q<ds[i].cons[m].length
     .have hqd:=EF yb;have jf:Kw 95 [We ds,.agg (Cm ds[i].cons[m][q]),.int .i64 ds[i].params]=some (.bool (CG ds ds[i].params ds[i].cons[m][q])):=hq_95 (by omega);rw[AA]at jf hqd;focus
       refine Sq<|Es<|Lv 2 U<|Lo (kl U e2 U) U<|qm U<|Lq (kv U hmd) U<|Lw U ?_;refine Cd U (fun h15=>?_) (fun h15=>?_);refine Sk<|Sq<|Sb<|Ag (by kernel_rfl)<|Nv 2 U<|Nm U e2 U (.inl U) U<|Nv 1 U<|Nq (kv U hmd) U<|Nv 2 U<|Nq (kv U hqd) U<|Nv 2 U<|Nm U e2 U (.inl U) U ?_;refine Na (kC U (jf)) (.inl U) U<|Nw U ?_;refine Cn U (fun h16=>?_) (fun h16=>?_);refine Ew U ?_;refine Se ⟨.inl U,U,e6,e5,_,_,_,(Aa U U),U,U,?_⟩;refine Ab ?_;rotate_left;refine Sk<|Sr<|qm U ?_;refine Lq (ka (b:=1) U (by omega)) U ?_;refine Lw U ?_;rotate_left;exact absurd h15 (by omega)
      .exact noC m sE (by unfold tg;rw[Ij yb h16,Bool.and_false])
      .exact⟨q+1,⟨yb,DH (P:=fun t=>CG ds ds[i].params t=true) (h:=yb) hqa h16⟩,by show ds[i].cons[m].length-(q+1)<ds[i].cons[m].length-q;omega,rfl,rfl,Ah (by repeat' constructor)⟩
     .focus
       refine Sq<|Es<|Lv 2 U<|Lo (kl U e2 U) U<|qm U<|Lq (kv U hmd) U<|Lw U ?_;refine Cd U (fun h15=>?_) (fun h15=>?_);exact absurd h15 (by omega);refine Sx<|A8 U<|Sr<|qm U ?_;refine Lq (ka (b:=1) U (by omega)) U ?_;refine Lw U ?_;rotate_left
      refine⟨m+1,⟨sE,DH (P:=fun c=>tg ds ds[i].params c=true) (h:=sE) hma ?_⟩,by show ds[i].cons.length-(m+1)<ds[i].cons.length-m;omega,rfl,rfl,Ah (by repeat' constructor)⟩;unfold tg;rw[decide_eq_true (by omega),EC fun j hj=>hqa j hj (by omega)];rfl
    .focus
      refine Sq<|Es<|Lv 2 U<|Lo (kl U e2 U) U<|Lw U ?_;refine Cd U (fun h13=>?_) (fun h13=>?_);exact absurd h13 (by omega);refine Sx<|A8 U<|Sr<|qm U ?_;refine Lq (ka (b:=1) U (by omega)) U ?_;refine Lw U ?_;rotate_left
     refine⟨(i+1,sB),⟨h,by dsimp only;omega,e5,e6,fun j hj Co=>?_⟩,by show ds.length-(i+1)<ds.length-i;omega,rfl,rfl,Ah (by repeat' constructor)⟩;rcases Nat.lt_or_ge j i with h1|h1
     .exact ha j hj h1
     .obtain rfl:j=i:=by omega
      exact⟨X2,fun k hk Co=>hka k hk (by omega),EC fun k hk=>hma k hk (by omega)⟩
  .focus
    refine Sq<|Ew U ?_;refine Cd U (fun h6=>?_) (fun h6=>?_);exact absurd h6 (by omega);refine Sx<|A8 U<|Ew U ?_;refine Se ⟨.inl U,U,ZE,ZR,_,_,_,(Aa U U),U,U,?_⟩;refine Ab ?_;rotate_left
   exact Oz ⟨by omega,head,fun j hj=>(ha j hj (by omega)).1,fun j hj=>(ha j hj (by omega)).2.1,by rw[show ds.length=i by omega];exact nE,fun j hj=>(ha j hj (by omega)).2.2⟩
 .focus
   refine Ew U<|Sq<|Ag (by kernel_rfl)<|Nv 4 U ?_;refine Dd U (fun h1=>?_) (fun h1=>?_);exact absurd h1 (by omega);refine Nv 5 U ?_;refine Dd U (fun h2=>?_) (fun h2=>?_);refine Nw U<|Tt U<|Ew U ?_;refine Se (Er U ?_);refine Ab ?_;rotate_left;refine Nv 1 U<|Nz (kv (k:=0) U dg) U U<|Nv 2 U<|Nz (A2 U CT U U U U) U U<|Nv 2 U ?_;refine Db U (fun g3=>?_) (fun g3=>?_);have h3:=bnT g3;refine Nw U<|Tt U<|Ew U ?_;refine Se (Er U ?_);refine Ab ?_;rotate_left;have h3:=bnF g3;refine Nv 1 U<|Nz (kv (k:=0) U dg) U U<|Nv 5 U ?_;refine Db U (fun g4=>?_) (fun g4=>?_);have h4:=nT g4;refine Nw U<|Tt U<|Ew U ?_;refine Se (Er U ?_);refine Ab ?_;rotate_left;have h4:=nF g4;refine Nv 1 U<|Nz (kv (k:=0) U dg) U U<|Nv 6 U ?_;refine Db U (fun g5=>?_) (fun g5=>?_);have h5:=nT g5;refine Nw U<|Tt U<|Ew U ?_;refine Se (Er U ?_);refine Ab ?_;rotate_left;have h5:=nF g5;exact absurd h5 (by omega)
  .exact Bu fun h=>by have:=h.hi;omega
  .exact gf (by unfold aR;simp_all)
  .exact gf (by unfold aR;rw[decide_eq_false h4];simp)
  .exact gf (by unfold aR;rw[decide_eq_false hc];simp)
abbrev SmD:= {ds:List DT//CD ds=true}
def fA (p:SmD):List AV:=[We p.1]
theorem Hb (a b:SmD) (h:fA a=fA b):a=b:=Subtype.ext (EG (List.cons.inj h).1)
noncomputable def Kx:=W7 Kw 38 fA (fun p=> .bool (Xr p.1))
theorem hq_38 {ds:List DT} (h:CD ds=true):Kx 38 [We ds]=some (.bool (Xr ds)):=An (enc:=fA) (fun a b h=>by rw[Hb a b h]) ⟨ds,h⟩
theorem allx (h:Wq Tryz.prog 8 [] (.bool true)):Cq Tryz.prog gn Kx:=A3 Ax Aj (allw h) (fun p:SmD=>TC p.1 p.2) (fun _=>rfl) (fun _=>rfl)
theorem Du {ds:List DT} {vars o n:Int} {k:Nat} (h:partsOf ds vars o n=none):Y0 ds vars o n k=false:=by
 unfold Y0;rw[h];rfl
theorem GI {ds:List DT} {vars o n p:Int} {k:Nat} (h:partsOf ds vars o n=some p):Y0 ds vars o n k=decide ((k:Int)=p):=by
 unfold Y0;rw[h];by_cases e:(k:Int)=p
 .rw[e,decide_eq_true rfl];simp
 .rw[decide_eq_false e];simp only[beq_eq_false_iff_ne,ne_eq,Option.some.injEq];exact fun h=>e h.symm
theorem node_to (ds:List DT) (t:KT) (hd:ds.length<=1000):Cc (EK Kx) 93 [We ds,.agg (Cm t)] S0 (.bool (Y0 ds 20 t.op t.n t.kids.length)):=by
 obtain⟨o,n,ks⟩:=t;rw[DN];show Cc _ _ _ _ (.bool (Y0 ds 20 o n ks.length));refine As U ?_;focus
  iterate 2 refine Eh U ?_
  refine Sq<|Eh U<|Sb<|Ew U ?_;refine Cd U (fun h1=>?_) (fun h1=>?_);refine Es<|Ls 2 U<|AT (fn:=Tryz.f78) (by kernel_rfl) (by kernel_rfl) U U U U U U U U U U U<|Ew U<|Es<|Lv 4 U ?_;refine Bd U (fun h2=>?_) (fun h2=>?_);refine Lw U ?_;refine Se (Al (Xw.same U (Aa U U) U U U U ?_));refine qm U ?_;refine Bd U (fun h3=>?_) (fun h3=>?_);refine Lw U ?_;refine Se (Er U ?_);refine Ab ?_;rotate_left;refine Lw U ?_;refine Se (Er U ?_);refine Ab ?_;rotate_left;refine Lw U ?_;refine Se (Al (Xw.same U (Aa U U) U U U U ?_));refine Lw U ?_;refine Se (Er U ?_);refine Ab ?_;rotate_left;refine Ew U ?_;refine Cd U (fun h4=>?_) (fun h4=>?_);refine Es<|Ls 4 U ?_;refine Bd U (fun h5=>?_) (fun h5=>?_);refine Lw U ?_;refine Se (Er U ?_);refine Ab ?_;rotate_left;refine Lw U ?_;refine Se (Er U ?_);refine Ab ?_;rotate_left;refine Ew U ?_;refine Cd U (fun h6=>?_) (fun h6=>?_);refine Es<|Ls 4 U ?_
  refine Bd U (fun h7=>?_) (fun h7=>?_);refine Lw U ?_;refine Se (Er U ?_);refine Ab ?_;rotate_left;refine Lw U ?_;refine Se (Er U ?_);refine Ab ?_;rotate_left;refine Sk<|Es<|Ls 4 U ?_;refine Bd U (fun h8=>?_) (fun h8=>?_);refine Ls 4 U<|Lh U U (X9.sub U o9 U U (by omega))<|Gn U U U U U<|AT (fn:=Tryz.f78) (by kernel_rfl) (by kernel_rfl) U U U U U U U U U U U<|Ew U<|Es<|Lv 4 U ?_;refine Bd U (fun h9=>?_) (fun h9=>?_);refine Lw U ?_;refine Se (Al (Xw.same U (Aa U U) U U U U ?_));refine Lv 2 U ?_;refine Bd U (fun yn=>?_) (fun yn=>?_);refine Ls 4 U ?_;rotate_left;refine Lw U ?_;refine Se (Er U ?_);refine Ab ?_;rotate_left;refine Lw U ?_;refine Se (Al (Xw.same U (Aa U U) U U U U ?_));refine Lw U ?_;refine Se (Er U ?_);refine Ab ?_;rotate_left;refine Lw U ?_;refine Se (Er U ?_);refine Ab ?_;rotate_left
 .exact(GI (by unfold partsOf;grind)).symm
 .exact(Du (by unfold partsOf;grind)).symm
 .exact(Du (by unfold partsOf;grind)).symm
 .exact(GI (by unfold partsOf;grind)).symm
 .exact(Du (by unfold partsOf;grind)).symm
 .exact(GI (by unfold partsOf;grind)).symm
 .exact(Du (by unfold partsOf;grind)).symm
 .obtain⟨m,rfl⟩:=Int.eq_ofNat_of_zero_le (by omega:0<=n);have hm:m<ds.length:=by omega
  have Yz:=A9 AS hm;unfold Y9 at Yz;refine Lh U U (kv U Yz)<|Lw U ?_;refine Se (Er U ?_);refine Ab ?_;refine(GI ?_).symm;unfold partsOf;rw[if_neg (by omega),if_neg (by omega),if_neg (by omega),if_pos (by omega),if_pos (by omega),Int.toNat_natCast,Qi hm];rfl
 .exact(Du (by unfold partsOf;grind)).symm
 .exact(Du (by unfold partsOf;grind)).symm
 .exact(Du (by unfold partsOf;grind)).symm
abbrev NoT:= {p:List DT×KT//p.1.length<=1000}
def mz (p:NoT):List AV:=[We p.1.1,.agg (Cm p.1.2)]
theorem Vg (x y:NoT) (h:mz x=mz y):x=y:=by
 obtain⟨⟨a,b⟩,_⟩:=x;obtain⟨⟨a',b'⟩,_⟩:=y;simp only[mz,List.cons.injEq,AV.agg.injEq,and_true]at h;obtain⟨h0,h1⟩:=h;obtain rfl:=BR _ _ h1;obtain rfl:=EG h0;rfl
theorem Ou (p:NoT):(mz p).all (Cj 40)=true:=by
 show(Cj 40 (We p.1.1)&&(AV.agg (Cm p.1.2)::[]).all (Cj 40))=true;rw[Ed,Br _ _ rfl];rfl
noncomputable def Ky:=W7 Kx 93 mz (fun p=> .bool (Y0 p.1.1 20 p.1.2.op p.1.2.n p.1.2.kids.length))
theorem hq_93 {ds:List DT} {t:KT} (hd:ds.length<=1000):Ky 93 [We ds,.agg (Cm t)]=some (.bool (Y0 ds 20 t.op t.n t.kids.length)):=An (enc:=mz) (fun a b h=>by rw[Vg a b h]) ⟨(ds,t),hd⟩
theorem ally (h:Wq Tryz.prog 8 [] (.bool true)):Cq Tryz.prog gn Ky:=A3 Ax Aj (allx h) (fun p:NoT=>node_to p.1.1 p.1.2 p.2) Ou (fun _=>rfl)
mutual
def C9:KT->List KT
 | .mk o n ks=> .mk o n ks::Wn ks
def Wn:List KT->List KT
 | []=>[]
 |t::ts=>C9 t++Wn ts
end
theorem GH (t:KT):0<(C9 t).length:=by cases t;exact Nat.succ_pos _
theorem NG (a b:List KT):Wn (a++b)=Wn a++Wn b:=by
 induction a with
 |nil=>rfl
 |cons t a ih=>rw[List.cons_append,Wn,Wn,ih,List.append_assoc]
theorem wO {ks:List KT} {i:Nat} (h:i<ks.length):Wn ks=Wn (ks.take i)++(C9 ks[i]++Wn (ks.drop (i+1))):=by
 conv=>lhs;rw[<-List.take_append_drop i ks,List.drop_eq_getElem_cons h]
 rw[NG,Wn]
theorem RT {ks:List KT} {i:Nat} (h:i<ks.length):(Wn (ks.take (i+1))).length=(Wn (ks.take i)).length+(C9 ks[i]).length:=by
 rw[List.take_add_one,Qi h,Option.toList_some,NG,Ql,Wn,Wn,List.append_nil]
def At (L:List KT) (j:Nat) (M:List KT):Prop:=j+M.length<=L.length/\∀i (hi:i<M.length),L[j+i]?=some M[i]
theorem At.app {L A B:List KT} {j:Nat} (h:At L j (A++B)):At L j A/\At L (j+A.length) B:=by
 obtain⟨h1,h2⟩:=h;rw[Ql]at h1;refine⟨⟨by omega,fun i hi=>?_⟩,by omega,fun i hi=>?_⟩
 .rw[h2 i (by rw[Ql];omega),List.getElem_append_left]
 .rw[Nat.add_assoc,h2 (A.length+i) (by rw[Ql];omega),List.getElem_append_right (by omega)];simp
theorem At.cons {L M:List KT} {x:KT} {j:Nat} (h:At L j (x::M)):(∃hj:j<L.length,L[j]=x)/\At L (j+1) M:=by
 have h2:=At.app (A:=[x]) (B:=M) h;refine⟨?_,h2.2⟩;have h3:=h2.1.2 0 (Nat.zero_lt_one);have h4:j<L.length:=h2.1.1;refine⟨h4,?_⟩;rw[Nat.add_zero,Qi h4]at h3;exact Option.some.inj h3
structure th (b base:Nat) (L:List KT) (C:Nat->Nat->Tr Cw->Prop) (D:Nat->Tr Cw->Prop):Prop where
 mono:∀ {j n h n' h'},C j n h->n<=n'->(∀d,d<n->h'.get d=h.get d)->C j n' h'
 yes:∀j (hj:j<L.length) (st:St),base<=st.bound->st.bound<=st.next->C j st.next st.heap->Yields (EK Ky) b [.agg (Cm L[j])] st fun v s'=>st.next<=s'.next/\s'.bound=st.bound/\b∈s'.log/\(∀d∈s'.log,d∈st.log\/d<st.bound)/\
  (∀d,base<=d->d<st.next->s'.heap.get d=st.heap.get d)/\(v=true->C (j+1) s'.next s'.heap)/\(v=false->D s'.next s'.heap)
 low:b<base
 len:L.length<=100000
structure iz (b base:Nat) (s:St) (j m:Nat) (C:Nat->Nat->Tr Cw->Prop) (D:Nat->Tr Cw->Prop) (r:Bool) (s3:St):Prop where
 bound:s3.bound=s.bound
 next:s.next<=s3.next
 log:∀d∈s3.log,d∈s.log\/d<s.bound
 more:∀d∈s.log,d∈s3.log
 heap:∀d,base<=d->d<s.next->s3.heap.get d=s.heap.get d
 low:b<s.bound->(m≠0\/r=false)->b∈s3.log
 yes:r=true->C (j+m) s3.next s3.heap
 no:r=false->D s3.next s3.heap
theorem J9 {n:Nat} {l:List Nat} {d:Nat} (h:d∈l):∀M,d∈below n M l
 | []=>h
 |b::M=>by
  unfold below;cases Nat.blt b n with
  |true=>exact Qg _ (J9 h M)
  |false=>exact J9 h M
theorem DP {K:FuncId->List AV->Option AV} {f:FuncId} {fn:Func} {c:Code} {args:List AV} {s:St} {R:AV->St->Prop} {rs:List ResultVar} {fr:Fr} {l0:Sl} (hm:K f args=none) (hz:(EK K).j0 f=1) (hf:(EK K).fns.get f=some fn) (hc:fn.body=some c) (hr:fn.results.toList=rs)
 (aU:frame fn.ntmps args none=fr) (hl:ZS 0 args []=l0) (h:Cz (EK K) c fr l0 s.enter fun ex fr l st=>(ex= .ret\/ex= .normal)/\fr.defers=[]/\∃v,CI (EK K) st l rs=some [v]/\er v=true/\(st.log=[]->R v s)/\R v (s.back st)):VZ (EK K) f args s R:=by
 refine VZ.gen hm hf hc hr aU hl (h.mono fun ex fr l st ⟨h1,h2,v,h3,hp,h4,h5⟩=>⟨h1,st,by rw[h2];rfl,[v],h3,?_⟩);exact AL hz (fun _ _=>by show Cs _ _ 40 v []=_;cases v<;>first|rfl|cases hp) (fun _=>by show Cr _ 40 v=true;cases v<;>first|rfl|cases hp) h4 fun _=>h5
section
variable {b base : Nat} {L : List KT} {C : Nat -> Nat -> Tr Cw -> Prop} {D : Nat -> Tr Cw -> Prop}
theorem DI {s st:St} {j m:Nat} {r:Bool} (hn:s.next<=st.next) (aU:∀d,base<=d->d<s.next->st.heap.get d=s.heap.get d) (hb:(m≠0\/r=false)->b∈st.log) (hC:r=true->C (j+m) st.next st.heap) (hD:r=false->D st.next st.heap):iz b base s j m C D r (s.back st):=
 ⟨rfl,hn,fun d hd=>(Dv hd).imp id And.right,fun d hd=>J9 hd _,aU,fun Co hm=>EY (hb hm) Co,hC,hD⟩
def ot (VY bv:Nat):AV:= .func (.func 160) [] [.ptr VY 0,.ptr bv 0]
structure j8 (b base VY bv:Nat) (s:St):Prop where
 lo:base<=s.bound
 hi:s.bound<=s.next
 y:base<=VY/\VY<s.next
 v:base<=bv/\bv<s.next
 gy:s.heap.get VY=some (.cells [.func (.yield b) [] []] 29 false)
 gv:s.heap.get bv=some (.cells [ot VY bv] 29 false)
theorem j8.enter {VY bv:Nat} {s:St} (h:j8 b base VY bv s):j8 b base VY bv s.enter:=⟨Nat.le_trans h.lo h.hi,Qj _,h.y,h.v,h.gy,h.gv⟩
theorem j8.next {VY bv:Nat} {s s':St} (h:j8 b base VY bv s) (hb:s'.bound=s.bound) (hn:s.next<=s'.next) (hf:∀d,base<=d->d<s.next->s'.heap.get d=s.heap.get d):j8 b base VY bv s':=
 ⟨by rw[hb];exact h.lo,by rw[hb];exact Nat.le_trans h.hi hn,⟨h.y.1,Nat.lt_of_lt_of_le h.y.2 hn⟩,⟨h.v.1,Nat.lt_of_lt_of_le h.v.2 hn⟩,(hf _ h.y.1 h.y.2).trans h.gy,(hf _ h.v.1 h.v.2).trans h.gv⟩
def wQ (b base VY bv:Nat) (L:List KT) (C:Nat->Nat->Tr Cw->Prop) (D:Nat->Tr Cw->Prop) (d:Nat):Prop:=
 ∀(t:KT) (j:Nat) (s:St),Wo t<=d->At L j (C9 t)->j8 b base VY bv s->C j s.next s.heap->VZ (EK Ky) 160 [.agg (Cm t),.ptr VY 0,.ptr bv 0] s fun v s3=>∃r,v= .bool r/\iz b base s j (C9 t).length C D r s3
theorem V0 (H:th b base L C D) {VY bv bi d:Nat} (hV:wQ b base VY bv L C D d) {t:KT} {j:Nat} {s:St} (ht:Wo t<=d) (hA:At L j (C9 t)) (hB:j8 b base VY bv s) (hC:C j s.next s.heap)
 (ll:base<=bi/\bi<s.next) (gi:s.heap.get bi=some (.cells [ot VY bv] 29 false)):VZ (EK Ky) 155 [.agg (Cm t),.ptr bi 0] s fun v s3=>∃r,v= .bool (!r)/\iz b base s j (C9 t).length C D r s3:=by
 refine DP (fn:=Tryz.f155) U U (by kernel_rfl) U U U U ?_;have e0:=AA t;rw[e0];obtain⟨sB,W6⟩:∃x,x=s.enter.alloc (.cells [.int .i64 t.op,.int .i64 t.n,CM Cm 3 t.kids] 26 false):=⟨_,rfl⟩
 have g1:sB.heap.get bi=some (.cells [.func (.func 160) [] [.ptr VY 0,.ptr bv 0]] 29 false):=by rw[W6];exact(Ao ll.2).trans gi
 have g3:sB.heap.get s.next=some (.cells [.int .i64 t.op,.int .i64 t.n,CM Cm 3 t.kids] 26 false):=by rw[W6];exact A4
 have nB:sB.next=s.next+1:=by rw[W6];rfl
 have bB:sB.bound=s.next:=by rw[W6];rfl
 have oB:∀d,d<s.next->sB.heap.get d=s.heap.get d:=fun d hd=>by rw[W6];exact Ao hd
 have hr:=hV t j sB ht hA (hB.enter.next (by rw[bB];rfl) (by rw[nB];exact Nat.le_succ _) fun d _ hd=>oB d hd) (H.mono hC (by omega) oB);rw[e0]at hr;refine Es<|Lo (AO U U U) U<|Lw U ?_;show Cz _ _ _ _ (s.enter.alloc (.cells [.int .i64 t.op,.int .i64 t.n,CM Cm 3 t.kids] 26 false)) _;rw[<-W6];clear W6;refine Es<|Lo (kl U g1 U) U<|Lo (kL U g3 U) U ?_;refine Fv (by kernel_rfl) U U U U U U U U (VZ.mono hr ?_);rintro v s' ⟨r,rfl,e⟩;have lD:b<s.next:=Nat.lt_of_lt_of_le H.low (Nat.le_trans hB.lo hB.hi);have Wk:=e.low (by omega) (.inl (Nat.ne_of_gt (GH ..)));have e2:=e.next;refine Lw U<|Se ?_;exact⟨.inl U,rfl,_,Aa U U,rfl,fun h=>absurd h (List.ne_nil_of_mem Wk),r,rfl,DI (by omega) (fun c h1 h2=>(e.heap c h1 (by omega)).trans (oB c h2)) (fun _=>Wk) e.yes e.no⟩
theorem idx_run (H:th b base L C D) {VY bv bi d:Nat} (hV:wQ b base VY bv L C D d) {ks:List KT} {j:Nat} {s:St} (hd:∀t∈ks,Wo t<=d) (hA:At L j (Wn ks)) (hB:j8 b base VY bv s) (hC:C j s.next s.heap)
 (ll:base<=bi/\bi<s.next) (gi:s.heap.get bi=some (.cells [ot VY bv] 29 false)):VZ (EK Ky) 229 [CM Cm 3 ks,.func (.func 155) [] [.ptr bi 0]] s
  fun v s3=>∃r,((r=true/\v= .int .i64 (-1))\/(r=false/\∃i:Nat,v= .int .i64 (i:Nat)))/\iz b base s j (Wn ks).length C D r s3:=by
 refine DP (fn:=Tryz.f229) U U (by kernel_rfl) U U U U ?_;have lD:b<s.next:=Nat.lt_of_lt_of_le H.low (Nat.le_trans hB.lo hB.hi);have l4:ks.length<=100000:=by
  have h1:=hA.1;have h2:ks.length<=(Wn ks).length:=by
   clear hA hd h1;induction ks with
   |nil=>exact Qj _
   |cons t ts ih=>rw[Wn,Ql,List.length_cons];have:=GH t;omega
  have:=H.len;omega
 refine Ew U<|Sq<|Ew U<|Sb ?_;refine Ai (fun y:Nat×St=>([(8,.int .i64 (y.1:Nat)),(7,.int .i64 (ks.length:Nat)),(0,CM Cm 3 ks),(1,.func (.func 155) [] [.ptr bi 0])],y.2)) (fun y=>ks.length-y.1)
  (fun y=>y.1<=ks.length/\y.2.bound=s.next/\s.next<=y.2.next/\(∀d,base<=d->d<s.next->y.2.heap.get d=s.heap.get d)/\(y.1≠0->b∈y.2.log)/\C (j+(Wn (ks.take y.1)).length) y.2.next y.2.heap)
  (0,s.enter) ⟨Qm _,rfl,Qj _,fun _ _ _=>rfl,fun h=>absurd rfl h,hC⟩ rfl (Ah (by repeat' constructor)) ?_
 rintro⟨i,st⟩ ⟨hi,hbo,aC,aU,ZE,hCi⟩;dsimp only at hi hbo aC aU ZE hCi|-;by_cases h:i<ks.length
 .have Yz:=EF h;have e0:=AA ks[i];rw[e0]at Yz;have hAi:=hA;rw[wO h]at hAi;have hr:=V0 H hV (s:=st) (hd _ (List.getElem_mem h)) hAi.app.2.app.1 (hB.enter.next hbo aC aU) hCi ⟨ll.1,by omega⟩ ((aU bi ll.1 ll.2).trans gi);rw[e0]at hr;focus
   refine Ew U<|Sq ?_;refine Cd U (fun h1=>?_) (fun h1=>?_);refine Sk<|Sq<|Sb<|Ew U<|Es<|Lv 3 U<|Lq (kv U Yz) U<|Lv 1 U ?_;rotate_left;exact absurd h1 (by omega)
  refine Fv (by kernel_rfl) U U U U U U U U (VZ.mono hr ?_);rintro v s' ⟨r,rfl,e⟩;have e1:=e.bound.trans hbo;have e2:=e.next;have Wk:=e.low (by omega) (.inl (Nat.ne_of_gt (GH ..)));have hfr2:∀d,base<=d->d<s.next->s'.heap.get d=s.heap.get d:=fun c h1 h2=>(e.heap c h1 (by omega)).trans (aU c h1 h2);cases r with
  |true=>
   refine Ld<|Tf U<|Sk<|Sr ?_;refine Lq (ka (b:=1) U (by omega)) U ?_;refine Lw U ?_;refine⟨(i+1,s'),⟨h,e1,by show s.next<=s'.next;omega,hfr2,fun _=>Wk,?_⟩,by show ks.length-(i+1)<ks.length-i;omega,rfl,rfl,Ah (by repeat' constructor)⟩;rw[RT h,<-Nat.add_assoc];exact e.yes U
  |false=>
   refine Ld<|Tt U<|Ew U<|Se ?_;exact⟨.inl U,rfl,_,Aa U U,rfl,fun h=>absurd h (List.ne_nil_of_mem Wk),false,.inr ⟨rfl,i,rfl⟩,DI (by omega) hfr2 (fun _=>Wk) (fun h=>by cases h) e.no⟩
 .obtain rfl:i=ks.length:=by omega
  rw[List.take_length]at hCi;focus
   refine Ew U<|Sq ?_;refine Cd U (fun h1=>?_) (fun h1=>?_);exact absurd h1 (by omega);refine Sx<|A8 U<|Ew U ?_;rotate_left
  refine Se ?_;refine⟨.inl U,rfl,_,Aa U U,rfl,fun h=>⟨true,.inl ⟨rfl,rfl⟩,?_⟩,true,.inl ⟨rfl,rfl⟩,DI aC aU (fun hm=>ZE fun h0=>(hm.elim id fun h=>by cases h) ?_) (fun _=>hCi) fun h=>by cases h⟩
  .have h0:ks.length=0:=Decidable.byContradiction fun hn=>List.ne_nil_of_mem (ZE hn) h;obtain rfl:=List.length_eq_zero_iff.1 h0;exact⟨rfl,Qj _,fun d hd=> .inl hd,fun d hd=>hd,fun _ _ _=>rfl,fun _ hm=>hm.elim (absurd U) (fun h=>by cases h),fun _=>hC,fun h=>by cases h⟩
  .obtain rfl:=List.length_eq_zero_iff.1 h0;rfl
theorem iz.back {s st:St} {j m:Nat} {r:Bool} (h:iz b base s.enter j m C D r st) (hb:(m≠0\/r=false)->b∈st.log):iz b base s j m C D r (s.back st):=DI h.next h.heap hb h.yes h.no
theorem iz.none {s:St} {j:Nat} (hC:C j s.next s.heap):iz b base s j 0 C D true s:=⟨rfl,Qj _,fun _ h=> .inl h,fun _ h=>h,fun _ _ _=>rfl,fun _ h=>h.elim (absurd rfl) (fun h=>by cases h),fun _=>hC,fun h=>by cases h⟩
theorem O1 (H:th b base L C D) {VY bv bi d:Nat} (hV:wQ b base VY bv L C D d) {ks:List KT} {j:Nat} {s:St} (hd:∀t∈ks,Wo t<=d) (hA:At L j (Wn ks)) (hB:j8 b base VY bv s) (hC:C j s.next s.heap)
 (ll:base<=bi/\bi<s.next) (gi:s.heap.get bi=some (.cells [ot VY bv] 29 false)):VZ (EK Ky) 154 [CM Cm 3 ks,.func (.func 155) [] [.ptr bi 0]] s
  fun v s3=>∃r,v= .bool (!r)/\iz b base s j (Wn ks).length C D r s3:=by
 refine DP (fn:=Tryz.f154) U U (by kernel_rfl) U U U U ?_;have lD:b<s.next:=Nat.lt_of_lt_of_le H.low (Nat.le_trans hB.lo hB.hi);refine Ew U<|Es<|Lv 2 U ?_;refine kf U (VZ.mono (idx_run H hV hd hA hB.enter hC ll gi) ?_);rintro v s' ⟨r,hv,e⟩;have ZE:((Wn ks).length≠0\/r=false)->b∈s'.log:=fun h=>e.low lD h;have hnil:s'.log=[]->iz b base s j (Wn ks).length C D true s:=fun h=>by
  have h0:(Wn ks).length=0:=Decidable.byContradiction fun hn=>List.ne_nil_of_mem (ZE (.inl hn)) h;rw[h0];exact iz.none hC
 rcases hv with⟨rfl,rfl⟩|⟨rfl,i,rfl⟩
 .refine Lw U ?_;refine Se ?_;exact⟨.inl U,rfl,_,Aa U U,rfl,fun h=>⟨true,rfl,hnil h⟩,true,rfl,e.back ZE⟩
 .refine Lw U ?_;refine Se ?_;refine⟨.inl U,rfl,_,Aa U U,rfl,fun h=>absurd h (List.ne_nil_of_mem (ZE (.inr U))),false,?_,e.back ZE⟩;rw[decide_eq_true (by omega)];rfl
theorem UT (H:th b base L C D) {VY bv d:Nat} (hV:wQ b base VY bv L C D d) {ks:List KT} {j:Nat} {s:St} (hd:∀t∈ks,Wo t<=d) (hA:At L j (Wn ks)) (hB:j8 b base VY bv s) (hC:C j s.next s.heap):
 VZ (EK Ky) 87 [CM Cm 3 ks,ot VY bv] s fun v s3=>∃r,v= .bool r/\iz b base s j (Wn ks).length C D r s3:=by
 refine DP (fn:=Tryz.f87) U U (by kernel_rfl) U U U U ?_;have fh:base<=s.next:=Nat.le_trans hB.lo hB.hi;have lD:b<s.next:=Nat.lt_of_lt_of_le H.low fh;obtain⟨sB,W6⟩:∃x,x=s.enter.alloc (.cells [ot VY bv] 29 false):=⟨_,rfl⟩
 have g0:sB.heap.get s.next=some (.cells [ot VY bv] 29 false):=by rw[W6];exact A4
 have nB:sB.next=s.next+1:=by rw[W6];rfl
 have bB:sB.bound=s.next:=by rw[W6];rfl
 have oB:∀d,d<s.next->sB.heap.get d=s.heap.get d:=fun d hd=>by rw[W6];exact Ao hd
 have hr:=O1 H hV (s:=sB) (bi:=s.next) hd hA (hB.enter.next (by rw[bB];rfl) (by rw[nB];exact Nat.le_succ _) fun d _ hd=>oB d hd) (H.mono hC (by omega) oB) ⟨fh,by omega⟩ g0;refine Es<|Lo (AO U U U) U<|Lw U ?_;show Cz _ _ _ _ (s.enter.alloc (.cells [ot VY bv] 29 false)) _;rw[<-W6];have lB:sB.log=[]:=by rw[W6];rfl
 clear W6;refine Es<|Lv 2 U ?_;refine kf U (VZ.mono hr ?_);rintro v s' ⟨r,rfl,e⟩;have ZE:((Wn ks).length≠0\/r=false)->b∈s'.log:=fun h=>e.low (by omega) h;have e2:=e.next;cases r with
 |true=>
  refine Lw U<|Se ?_;refine⟨.inl U,rfl,_,Aa U U,rfl,fun h=>⟨true,rfl,?_⟩,true,rfl,DI (by omega) (fun c h1 h2=>(e.heap c h1 (by omega)).trans (oB c h2)) ZE e.yes e.no⟩;have h0:(Wn ks).length=0:=Decidable.byContradiction fun hn=>List.ne_nil_of_mem (ZE (.inl hn)) h;rw[h0];exact iz.none hC
 |false=>
  refine Lw U<|Se ?_;exact⟨.inl U,rfl,_,Aa U U,rfl,fun h=>absurd h (List.ne_nil_of_mem (ZE (.inr U))),false,rfl,DI (by omega) (fun c h1 h2=>(e.heap c h1 (by omega)).trans (oB c h2)) ZE e.yes e.no⟩
theorem SY (H:th b base L C D) {VY bv:Nat}:∀d,wQ b base VY bv L C D d:=by
 intro d;induction d with
 |zero=>intro t j s ht;rw[E8]at ht;omega
 |succ d ih=>
  intro t j s ht hA hB hC;obtain⟨o,n,ks⟩:=t;have lD:b<s.next:=Nat.lt_of_lt_of_le H.low (Nat.le_trans hB.lo hB.hi);have fh:base<=s.next:=Nat.le_trans hB.lo hB.hi;have rZ:∀t∈ks,Wo t<=d:=fun t h=>by have:=BG h;have:Xq ks+1<=d+1:=ht;omega
  have hAc:=hA;rw[C9]at hAc;obtain⟨⟨hj,hLj⟩,hA2⟩:=hAc.cons;refine DP (fn:=Tryz.f160) U U (by kernel_rfl) U U U U ?_;obtain⟨sB,W6⟩:∃x,x=s.enter.alloc (.cells [.int .i64 o,.int .i64 n,CM Cm 3 ks] 26 false):=⟨_,rfl⟩
  have nB:sB.next=s.next+1:=by rw[W6];rfl
  have bB:sB.bound=s.next:=by rw[W6];rfl
  have oB:∀d,d<s.next->sB.heap.get d=s.heap.get d:=fun d hd=>by rw[W6];exact Ao hd
  have g0:sB.heap.get s.next=some (.cells [.int .i64 o,.int .i64 n,CM Cm 3 ks] 26 false):=by rw[W6];exact A4
  have gy:sB.heap.get VY=some (.cells [.func (.yield b) [] []] 29 false):=(oB _ hB.y.2).trans hB.gy;have hy:=H.yes j hj sB (by omega) (by omega) (H.mono hC (by omega) oB);rw[hLj,DN]at hy;rw[DN];refine Es<|Lo (AO U U U) U<|Lw U ?_;show Cz _ _ _ _ (s.enter.alloc (.cells [.int .i64 o,.int .i64 n,CM Cm 3 ks] 26 false)) _;rw[<-W6];clear W6;refine Es<|Lo (kl U gy U) U<|Lo (kL U g0 U) U<|Gm U U U U U U U hy ?_;rintro v s' ⟨y1,y2,y3,y4,y5,y6,y7⟩;have f0:∀d,base<=d->d<s.next->s'.heap.get d=s.heap.get d:=fun d h1 h2=>(y5 d h1 (by omega)).trans (oB d h2);have g0':=(y5 s.next fh (by omega)).trans g0;have gv':s'.heap.get bv=some (.cells [ot VY bv] 29 false):=(f0 bv hB.v.1 hB.v.2).trans hB.gv;cases v with
  |false=>
   refine Lw U<|Se ?_;exact⟨.inl U,rfl,_,Aa U U,rfl,fun h=>absurd h (List.ne_nil_of_mem y3),false,rfl,DI (by omega) f0 (fun _=>y3) (fun h=>by cases h) y7⟩
  |true=>
   have hr:=UT H ih (s:=s') (j:=j+1) (VY:=VY) (bv:=bv) rZ hA2 (hB.enter.next (y2.trans bB) (show s.next<=s'.next by omega) f0) (y6 rfl);refine Lv 2 U ?_;iterate 2 refine Lg U U (kl U ‹_› U) ?_
   refine Gn U U U U U ?_;refine kf U (VZ.mono hr ?_);rintro w s3 ⟨r,rfl,e⟩;have e2:=e.next;refine Lw U<|Se ?_;have Wk:b∈s3.log:=e.more b y3;refine⟨.inl U,rfl,_,Aa U U,rfl,fun h=>absurd h (List.ne_nil_of_mem Wk),r,rfl,DI (by omega) (fun c h1 h2=>(e.heap c h1 (by omega)).trans (f0 c h1 h2)) (fun _=>Wk) (fun h=>?_) e.no⟩;rw[C9,List.length_cons,Nat.add_comm _ 1,<-Nat.add_assoc];exact e.yes h
def AllN (s:St) (L:List KT) (C:Nat->Nat->Tr Cw->Prop) (D:Nat->Tr Cw->Prop):AV->St->Prop:=fun _ s3=>s3.bound=s.bound/\s.next<=s3.next/\(∀d∈s3.log,d∈s.log\/d<s.bound)/\(C L.length s3.next s3.heap\/D s3.next s3.heap)
theorem ND {s:St} {bt:Nat} {t:KT} (H:th b s.next (C9 t) C D) (hC:C 0 s.next s.heap) (hbt:bt<s.next) (gt:s.heap.get bt=some (.cells (Cm t) 26 false)):
 VZ (EK Ky) 159 [.func (.yield b) [] [],.ptr bt 0] s (AllN s (C9 t) C D):=by
 refine VZ.unit (fn:=Tryz.f159) U (by kernel_rfl) U U U U ?_;obtain⟨sB,W6⟩:∃x,x=s.enter.alloc (.cells [.func (.yield b) [] []] 29 false):=⟨_,rfl⟩
 have nB:sB.next=s.next+1:=by rw[W6];rfl
 have bB:sB.bound=s.next:=by rw[W6];rfl
 have oB:∀d,d<s.next->sB.heap.get d=s.heap.get d:=fun d hd=>by rw[W6];exact Ao hd
 have g0:sB.heap.get s.next=some (.cells [.func (.yield b) [] []] 29 false):=by rw[W6];exact A4
 obtain⟨a1,a2,a3,a4,a5,a6,a7⟩:=Bg (st:=sB) (z:=[.WE]) (cs:=[.func (.func 160) [] [.ptr s.next 0,.ptr sB.next 0]]) (T:=29);have e0:=AA t;rw[e0]at gt;refine Es<|Lo (AO U U U) U<|Ld ?_;show Cz _ _ _ _ (s.enter.alloc (.cells [.func (.yield b) [] []] 29 false)) _;rw[<-W6];clear W6;have gt2:=(a4 bt (by omega)).trans ((oB bt hbt).trans gt);have hB:j8 b s.next s.next sB.next ((sB.alloc (.cells [.WE] 29 false)).put sB.next (some (.cells [.func (.func 160) [] [.ptr s.next 0,.ptr sB.next 0]] 29 false))):=
  ⟨by rw[a5];omega,by rw[a5,a7];omega,⟨Qj _,by rw[a7];omega⟩,⟨by omega,by rw[a7];omega⟩,(a4 s.next (by omega)).trans g0,a2⟩
 have hC2:=H.mono hC (show s.next<=((sB.alloc (.cells [.WE] 29 false)).put sB.next (some (.cells [.func (.func 160) [] [.ptr s.next 0,.ptr sB.next 0]] 29 false))).next by rw[a7];omega) fun d hd=>(a4 d (by omega)).trans (oB d hd);have hr:=SY H (Wo t) t 0 _ (Qj _) ⟨by rw[Nat.zero_add];exact Qj _,fun i hi=>by rw[Nat.zero_add];exact Qi hi⟩ hB hC2;rw[e0]at hr;refine Es<|Lo (kz U) U<|Ld<|Es<|Lv 1 U<|Ln (kw U a1 U) U<|Ld<|Sr<|Lo (kl U a2 U) U<|Lo (kL U gt2 U) U ?_;refine Fv (by kernel_rfl) U U U U U U U U (VZ.mono hr ?_);rintro v s' ⟨r,rfl,e⟩;have e1:=e.bound;have e2:=e.next;have e5:=e.low;rw[a5,bB]at e1 e5;rw[a7]at e2;have Wk:=e5 H.low (.inl (Nat.ne_of_gt (GH ..)));refine Ld ?_;refine⟨.inr U,rfl,fun h=>absurd h (List.ne_nil_of_mem Wk),rfl,by show s.next<=s'.next;omega,fun d hd=>(Dv hd).imp id And.right,?_⟩;have e6:=e.yes;rw[Nat.zero_add]at e6;cases r with
 |true=>exact .inl (e6 rfl)
 |false=>exact .inr (e.no rfl)
end
def okN (ds:List DT) (vars:Int) (x:KT):Bool:=Y0 ds vars x.op x.n x.kids.length
mutual
theorem F7:∀t:KT,(C9 t).length=Wa t
 | .mk o n ks=>by rw[C9,List.length_cons,IU ks];rfl
theorem IU:∀ts:List KT,(Wn ts).length=Wj ts
 | []=>rfl
 |t::ts=>by rw[Wn,Ql,F7 t,IU ts];rfl
end
mutual
theorem KE (ds:List DT) (v:Int):∀t:KT,(C9 t).all (okN ds v)=Y1 ds v t
 | .mk o n ks=>by rw[C9,List.all_cons,IB ds v ks];rfl
theorem IB (ds:List DT) (v:Int):∀ts:List KT,(Wn ts).all (okN ds v)=eC ds v ts
 | []=>rfl
 |t::ts=>by rw[Wn,List.all_append,KE ds v t,IB ds v ts];rfl
end
theorem MH (ds:List DT) (v:Int) (t:KT):CG ds v t=(decide ((C9 t).length<=20)&&(C9 t).all (okN ds v)):=by
 unfold CG;rw[KE,F7];by_cases h:Wa t<=20
 .rw[decide_eq_true h,decide_eq_true (by rw[Qp t 20 (by omega)];omega)]
 .rw[decide_eq_false h,decide_eq_false (by
   intro hw;have:=Gr t 20 hw;omega)]
structure TyC (ds:List DT) (L:List KT) (lp:aY) (j n:Nat) (h:Tr Cw):Prop where
 g0:h.get 0=some (.cells [We ds] 22 false)
 g2:h.get 2=some (.cells [.bool false] 4 false)
 g3:h.get 3=some (.cells [.int .i64 (j:Nat)] 3 false)
 df:h.get 5=some (.defs true)
 lp:h.get 6=some (.loop lp)
 ok:∀i (hi:i<L.length),i<j->okN ds 20 L[i]=true
 few:j<=20
 lt:7<=n
structure TyD (ds:List DT) (L:List KT) (n:Nat) (h:Tr Cw):Prop where
 g2:h.get 2=some (.cells [.bool false] 4 false)
 df:h.get 5=some (.defs true)
 lp:∃lp,h.get 6=some (.loop lp)/\lp.state= .done/\lp.pending=some .ret
 no:(decide (L.length<=20)&&L.all (okN ds 20))=false
theorem TyC.mono {ds:List DT} {L:List KT} {lp:aY} {j n n':Nat} {h h':Tr Cw} (H:TyC ds L lp j n h) (hn:n<=n') (hh:∀d,d<n->h'.get d=h.get d):TyC ds L lp j n' h':=by
 have:=H.lt;exact⟨(hh 0 (by omega)).trans H.g0,(hh 2 (by omega)).trans H.g2,(hh 3 (by omega)).trans H.g3,(hh 5 (by omega)).trans H.df,(hh 6 (by omega)).trans H.lp,H.ok,H.few,Nat.le_trans this hn⟩
theorem Ru {sB:St} {nt:Nat} {T:Tr AV} {ps:List Nat} {a b:Code} {ds:List DT} {t:KT} {R:AV->St->Prop} (hs:(C9 t).length<=100000)
 (g0:sB.heap.get 0=some (.cells [We ds] 22 false)) (g2:sB.heap.get 2=some (.cells [.bool false] 4 false)) (g3:sB.heap.get 3=some (.cells [.int .i64 ((0:Nat):Int)] 3 false))
 (g4:sB.heap.get 4=some (.cells (Cm t) 26 false)) (nB:sB.next=5)
 (hy:∀j (hj:j<(C9 t).length) (st:St),7<=st.bound->st.bound<=st.next->TyC ds (C9 t) (rW nt T ps a b) j st.next st.heap->Yields (EK Ky) 6 [.agg (Cm (C9 t)[j])] st fun v s'=>st.next<=s'.next/\s'.bound=st.bound/\6∈s'.log/\(∀d∈s'.log,d∈st.log\/d<st.bound)/\
  (∀d,7<=d->d<st.next->s'.heap.get d=st.heap.get d)/\(v=true->TyC ds (C9 t) (rW nt T ps a b) (j+1) s'.next s'.heap)/\(v=false->TyD ds (C9 t) s'.next s'.heap))
 (k:∀w s3,AllN (XH sB nt T ps a b) (C9 t) (TyC ds (C9 t) (rW nt T ps a b)) (TyD ds (C9 t)) w s3->R w s3):
 VZ (EK Ky) 159 [.func (.yield (sB.next+1)) [] [],.ptr 4 0] (XH sB nt T ps a b) R:=by
 have hn:(XH sB nt T ps a b).next=7:=by show sB.next+2=7;rw[nB]
 rw[nB];refine VZ.mono (ND (t:=t) (C:=TyC ds (C9 t) (rW nt T ps a b)) (D:=TyD ds (C9 t)) ⟨fun h hn hh=>h.mono hn hh,?_,?_,hs⟩ ?_ ?_ ?_) k
 .intro j hj st h1 h2 hC;rw[hn]at h1|-;exact hy j hj st h1 h2 hC
 .omega
 .refine⟨(BB (by omega)).trans g0,(BB (by omega)).trans g2,(BB (by omega)).trans g3,?_,?_,fun i _ h=>absurd h (Nat.not_lt_zero _),Qm _,by omega⟩
  .rw[show 5=sB.next from nB.symm];exact Me
  .rw[show 6=sB.next+1 by omega];exact Md
 .omega
 .exact(BB (by omega)).trans g4
theorem PU {fr:Fr} {l:Sl} {st:St} {r v:Bool} (hd:fr.defers=[{target:= .collected 5,args:=[]}]) (h4:Am.look 4 l=some (.ptr 2 0)) (g2:st.heap.get 2=some (.cells [.bool r] 4 false)) (g5:st.heap.get 5=some (.defs true)) (hb:st.bound=0) (hl:st.log=[]) (hv:r=v) {ex:Ex} (hex:ex= .ret\/ex= .normal):
 (ex= .ret\/ex= .normal)/\∃ZD,Zm fr.defers st=some ZD/\ZD.log=[]/\ZD.bound=0/\∃vs w ks,CI (EK Ky) ZD l (Tryz.f37).results.toList=some vs/\Cs ZD 0 40 (ck vs) []=some (w,ks)/\Cr 0 40 w=true/\w= .bool v:=by
 subst hv;obtain⟨s',e1,e2,e3,e4,e5⟩:=Ep (rs:=[5]) (s:=st) (List.nodup_cons.2 ⟨(fun h=>by cases h),List.nodup_nil⟩) (fun q hq=>by rw[Qn.1 hq];exact g5);refine⟨hex,s',by rw[hd];exact e1,(e4 hb).trans hl,e3.trans hb,[.bool r],.bool r,[],?_,U,U,U⟩;exact DS h4 ag_4 sz_4 ((e5 2 (fun h=>by have:=Qn.1 h;omega)).trans g2) U U
theorem type_to (ds:List DT) (t:KT) (hd:ds.length<=1000) (hs:(C9 t).length<=100000):Cc (EK Ky) 37 [We ds,.agg (Cm t)] S0 (.bool (CG ds 20 t)):=by
 have e0:=AA t;rw[e0,MH];refine HQ (fn:=Tryz.f37) (by kernel_rfl) U (by kernel_rfl) U U U U ?_;iterate 2 refine Eh U ?_
 refine Sq<|Es<|Ls 1 U<|AT (fn:=Tryz.f92) (by kernel_rfl) (by kernel_rfl) U U U U U U U U U U U<|Eh U<|Ew U ?_;refine Se (Al (Xw.new U (Aa U U) U U U U ?_));refine Ld<|Sb ?_;refine Aq fun sB W6=>?_;have g0:sB.heap.get 0=some (.cells [We ds] 22 false):=by rw[W6];exact AD 0
 have g2:sB.heap.get 2=some (.cells [.bool false] 4 false):=by rw[W6];exact AD 2
 have g3:sB.heap.get 3=some (.cells [.int .i64 ((0:Nat):Int)] 3 false):=by rw[W6];exact AD 3
 have g4:sB.heap.get 4=some (.cells (Cm t) 26 false):=by rw[W6,e0];exact AD 4
 have nB:sB.next=5:=by rw[W6];rfl
 have bB:sB.bound=0:=by rw[W6];rfl
 have lB:sB.log=[]:=by rw[W6];rfl
 clear W6;refine HM U U (by kernel_rfl) fun T ir=>?_;have hT:Has [(5,.ptr 3 0),(4,.ptr 2 0),(2,.ptr 0 0)] T:=ir.sub (Ah (by repeat' constructor));clear ir;refine Ru hs g0 g2 g3 g4 nB ?_ ?_
 .intro j hj st q1 q2 hC;have Co:=hC.lt;generalize hx:(C9 t)[j]=x;have ex:=AA x;have wR:Ky 93 [We ds,.agg (Cm x)]=some (.bool (okN ds 20 x)):=hq_93 hd;rw[ex]at wR|-;refine⟨_,_,_,hC.lp,U,hT.put 9 _,?_⟩;have cc:=Bg (st:=st) (z:=[.int .i64 0,.int .i64 0,.Ca]) (cs:=[.int .i64 x.op,.int .i64 x.n,CM Cm 3 x.kids]) (T:=26);have a1:=cc.h1;refine Sr<|Lo (kz U) U<|Ln (kw U a1 U) U<|Ld ?_;refine⟨U,_,(cc.h4 6 (by omega)).trans hC.lp,U,?_⟩;refine Aq fun sX WZ=>?_;have xo:∀d,d≠6->d<st.next->sX.heap.get d=st.heap.get d:=fun d hd h=>by rw[WZ];exact(Aw.trans (if_neg hd)).trans (cc.h4 d h)
  have qt:sX.heap.get st.next=some (.cells [.int .i64 x.op,.int .i64 x.n,CM Cm 3 x.kids] 26 false):=by rw[WZ];exact(Aw.trans (if_neg (by omega))).trans cc.h2
  have xl:=(congrArg (fun s=>s.heap.get 6) WZ).trans (Aw.trans (if_pos rfl));have bX:sX.bound=st.bound:=by rw[WZ];exact cc.h5
  have nX:sX.next=st.next+1:=by rw[WZ];exact cc.h7
  have mX:6∈sX.log:=by rw[WZ];exact Bk (Nat.lt_of_lt_of_eq (show 6<st.bound by omega) cc.h5.symm)
  have lX:∀d∈sX.log,d∈st.log\/d<st.bound:=fun d hd=>by
   rw[WZ]at hd;rcases AR hd with h|⟨_,h⟩
   .exact .inl (by rw[<-cc.h6 q2];exact h)
   .exact .inr (by rw[<-cc.h5];exact h)
  have q0:=(xo 0 (by decide) (by omega)).trans hC.g0;have q2':=(xo 2 (by decide) (by omega)).trans hC.g2;have q3:=(xo 3 (by decide) (by omega)).trans hC.g3;have q5:=(xo 5 (by decide) (by omega)).trans hC.df;have hj20:=hC.few;have xf:∀d,7<=d->d<st.next->sX.heap.get d=st.heap.get d:=fun d h1 h2=>xo d (by omega) h2;clear WZ;refine Sb<|Es<|Lo (kl U q3 U) U ?_;refine Lq (ka (b:=1) U (by omega)) U ?_;refine Ln (kw U q3 U) U<|Ld ?_;refine Aq fun sY hsY=>?_;have yo:∀d,d≠3->sY.heap.get d=sX.heap.get d:=fun d hd=>by rw[hsY];exact Aw.trans (if_neg hd)
  have r3:sY.heap.get 3=some (.cells [.int .i64 ((j+1:Nat):Int)] 3 false):=by rw[hsY];exact Aw.trans (if_pos rfl)
  have ym:6∈sY.log:=by rw[hsY];exact AN mX
  have yg:∀d∈sY.log,d∈st.log\/d<st.bound:=fun d hd=>by
   rw[hsY]at hd;rcases AR hd with h|⟨_,h⟩
   .exact lX d h
   .exact .inr (by rw[<-bX];exact h)
  have nY:sY.next=st.next+1:=by rw[hsY];exact nX
  have bY:sY.bound=st.bound:=by rw[hsY];exact bX
  have r0:=(yo 0 (by decide)).trans q0;have r2:=(yo 2 (by decide)).trans q2';have r5:=(yo 5 (by decide)).trans q5;have rt:=(yo st.next (by omega)).trans qt;have rl:=(yo 6 (by decide)).trans xl;have rf:∀d,7<=d->d<st.next->sY.heap.get d=st.heap.get d:=fun d h1 h2=>(yo d (by omega)).trans (xf d h1 h2);clear hsY yo xl mX lX nX bX q0 q2' q3 q5 qt xf xo;have no:(decide ((C9 t).length<=20)&&(C9 t).all (okN ds 20))=false->∀(P:Prop) (fR:aY),st.next<=((sY.put 2 (some (.cells [.bool false] 4 false))).put 6 (some (.loop {fR with state:= .done,pending:=some .ret}))).next/\((sY.put 2 (some (.cells [.bool false] 4 false))).put 6 (some (.loop {fR with state:= .done,pending:=some .ret}))).bound=st.bound/\
   6∈((sY.put 2 (some (.cells [.bool false] 4 false))).put 6 (some (.loop {fR with state:= .done,pending:=some .ret}))).log/\(∀d∈((sY.put 2 (some (.cells [.bool false] 4 false))).put 6 (some (.loop {fR with state:= .done,pending:=some .ret}))).log,d∈st.log\/d<st.bound)/\
   (∀d,7<=d->d<st.next->((sY.put 2 (some (.cells [.bool false] 4 false))).put 6 (some (.loop {fR with state:= .done,pending:=some .ret}))).heap.get d=st.heap.get d)/\(false=true->P)/\(false=false->TyD ds (C9 t) ((sY.put 2 (some (.cells [.bool false] 4 false))).put 6 (some (.loop {fR with state:= .done,pending:=some .ret}))).next ((sY.put 2 (some (.cells [.bool false] 4 false))).put 6 (some (.loop {fR with state:= .done,pending:=some .ret}))).heap):=by
   intro hf P fR;refine⟨by show st.next<=sY.next;omega,bY,AN (AN ym),fun d hd=>?_,fun d h1 h2=>?_,(fun h=>by cases h),fun _=>⟨(Aw.trans (if_neg (by decide))).trans (Aw.trans (if_pos U)),(Aw.trans (if_neg (by decide))).trans ((Aw.trans (if_neg (by decide))).trans r5),⟨_,Aw.trans (if_pos U),rfl,rfl⟩,hf⟩⟩
   .rcases AR hd with h|⟨_,h⟩
    .rcases AR h with h|⟨_,h⟩
     .exact yg d h
     .exact .inr (by rw[<-bY];exact h)
    .exact .inr (by rw[<-bY];exact h)
   .have h6:d≠6:=by omega
    have h2:d≠2:=by omega
    exact(Aw.trans (if_neg h6)).trans ((Aw.trans (if_neg h2)).trans (rf d h1 ‹_›))
  have r6:=(Aw (s:=sY) (b:=2) (c:=6) (o:=some (.cells [.bool false] 4 false))).trans ((if_neg (by decide)).trans rl);focus
   refine Es<|Lo (kl U r3 U) U<|Lv 2 U ?_;refine Bd U (fun h5=>?_) (fun h5=>?_);refine Lw U<|Tt U<|Es<|Ln (kw U r2 U) U<|Ld ?_;rotate_left;refine Lg U U (kl U r0 U)<|Lg U U (kL U rt U) ?_;refine Lg U U (kc U (wR))<|Lw U ?_;refine Cn U (fun h6=>?_) (fun h6=>?_);refine Es<|Ln (kw U r2 U) U<|Ld ?_;rotate_left;refine Sk ?_;rotate_left
  .refine Se ?_;refine⟨U,_,r6,?_⟩;exact no (by rw[decide_eq_false (by omega)];rfl) _ _
  .refine Se ?_;refine⟨U,_,r6,?_⟩;exact no (by rw[Ij hj (by rw[hx];assumption),Bool.and_false]) _ _
  .refine⟨U,_,rl,?_⟩;refine⟨by show st.next<=sY.next;omega,bY,AN ym,?_,?_,fun _=>?_,fun h=>by cases h⟩
   .intro d hd;rcases AR hd with h|⟨_,h⟩
    .exact yg d h
    .exact .inr (by rw[<-bY];exact h)
   .intro d h1 h2;have h6:d≠6:=by omega
    exact(Aw.trans (if_neg h6)).trans (rf d h1 h2)
   .refine⟨(Aw.trans (if_neg (by decide))).trans r0,(Aw.trans (if_neg (by decide))).trans r2,(Aw.trans (if_neg (by decide))).trans r3,(Aw.trans (if_neg (by decide))).trans r5,Aw.trans (if_pos U),fun i hi Co=>?_,by omega,by show 7<=sY.next;omega⟩;rcases Nat.lt_or_ge i j with h1|h1
    .exact hC.ok i hi h1
    .obtain rfl:i=j:=by omega
     rw[hx];assumption
 .rintro w s3 ⟨e1,e2,e3,e4⟩;have bR:s3.bound=0:=e1.trans bB;have lR:s3.log=[]:=List.eq_nil_iff_forall_not_mem.2 fun d hd=>by
   rcases e3 d hd with h|h
   .have h:d∈sB.log:=h;rw[lB]at h;cases h
   .have h:d<sB.bound:=h;omega
  clear e1 e2 e3;rw[nB];rcases e4 with hC|hD
  .refine⟨_,hC.lp,(fun h=>by cases h),?_⟩;show Cz (EK Ky) _ _ _ _ _;refine Aq fun sZ p9=>?_;have z2:sZ.heap.get 2=some (.cells [.bool false] 4 false):=by rw[p9];exact(Aw.trans (if_neg (by decide))).trans hC.g2
   have z5:sZ.heap.get 5=some (.defs true):=by rw[p9];exact(Aw.trans (if_neg (by decide))).trans hC.df
   have bZ:sZ.bound=0:=by rw[p9];exact bR
   have lZ:sZ.log=[]:=by rw[p9];exact(Ez bR).trans lR
   clear p9;refine Es<|Ln (kw U z2 U) U<|Ld<|Se ?_;refine PU U U (Aw.trans (if_pos U)) ((Aw.trans (if_neg (by decide))).trans z5) bZ ((Ez bZ).trans lZ) ?_ (.inl U);rw[decide_eq_true hC.few,EC fun i hi=>hC.ok i hi hi];rfl
  .obtain⟨lp,l1,l2,l3⟩:=hD.lp;refine⟨lp,l1,(by rw[l2];exact fun h=>by cases h),?_⟩;rw[l3]
   skip
   exact PU U U ((Aw.trans (if_neg (by decide))).trans hD.g2) ((Aw.trans (if_neg (by decide))).trans hD.df) bR ((Ez bR).trans lR) hD.no.symm (.inl U)
end Go.Proofs.YtfhimfcbphepeaaGreatDoor.Ty
open Go Am
namespace Am
section
variable {E : Env} {l : Sl} {o : Oper} {c : Call} {x y : Operand} {k : IntKind} {a b : Int}
theorem X9.maxI (ho:o.op= .call c) (hc:c.callee= .builtin .max) (ha:c.args.toList=[x,y]) (hx:Ch x l=some (.int k a)) (hy:Ch y l=some (.int k b)):X9 E o l (.int k (if a<b then b else a)):=
 AE (f:=fun T=>(Cg E x T).bind fun a=>(CO E [y] T).bind fun r=>oI oH r a) (by
  rw[ho];show Wz E o.type c=_;unfold Wz;rw[hc];show gZ E o.type .max c.argTypes.toList c.args.toList=_;rw[ha];rfl) fun T hT=>by
  rw[Ae hT hx,KI (Ae hT hy) TJ];rfl
end
end Am
namespace Go.Proofs.YtfhimfcbphepeaaGreatDoor.Ty
def YW (L:List KT):Int:=L.foldl (fun m x=>if x.op=1/\m<x.n then x.n else m) (-1)
theorem Ue {L:List KT} {j:Nat} (h:j<L.length):YW (L.take (j+1))=if L[j].op=1/\YW (L.take j)<L[j].n then L[j].n else YW (L.take j):=by
 unfold YW;rw[List.take_add_one,Qi h,Option.toList_some,List.foldl_append];rfl
structure MoC (L:List KT) (lp:aY) (j n:Nat) (h:Tr Cw):Prop where
 g1:h.get 1=some (.cells [.int .i64 (YW (L.take j))] 3 false)
 df:h.get 3=some (.defs true)
 lp:h.get 4=some (.loop lp)
 lt:5<=n
theorem MoC.mono {L:List KT} {lp:aY} {j n n':Nat} {h h':Tr Cw} (H:MoC L lp j n h) (hn:n<=n') (hh:∀d,d<n->h'.get d=h.get d):MoC L lp j n' h':=by
 have:=H.lt;exact⟨(hh 1 (by omega)).trans H.g1,(hh 3 (by omega)).trans H.df,(hh 4 (by omega)).trans H.lp,Nat.le_trans this hn⟩
theorem RZ {sB:St} {nt:Nat} {T:Tr AV} {ps:List Nat} {a b:Code} {t:KT} {R:AV->St->Prop} (hs:(C9 t).length<=100000)
 (g1:sB.heap.get 1=some (.cells [.int .i64 (-1)] 3 false)) (g2:sB.heap.get 2=some (.cells (Cm t) 26 false)) (nB:sB.next=3)
 (hy:∀j (hj:j<(C9 t).length) (st:St),5<=st.bound->st.bound<=st.next->MoC (C9 t) (rW nt T ps a b) j st.next st.heap->Yields (EK Ky) 4 [.agg (Cm (C9 t)[j])] st fun v s'=>st.next<=s'.next/\s'.bound=st.bound/\4∈s'.log/\(∀d∈s'.log,d∈st.log\/d<st.bound)/\
  (∀d,5<=d->d<st.next->s'.heap.get d=st.heap.get d)/\(v=true->MoC (C9 t) (rW nt T ps a b) (j+1) s'.next s'.heap)/\(v=false->False))
 (k:∀w s3,AllN (XH sB nt T ps a b) (C9 t) (MoC (C9 t) (rW nt T ps a b)) (fun _ _=>False) w s3->R w s3):
 VZ (EK Ky) 159 [.func (.yield (sB.next+1)) [] [],.ptr 2 0] (XH sB nt T ps a b) R:=by
 have hn:(XH sB nt T ps a b).next=5:=by show sB.next+2=5;rw[nB]
 rw[nB];refine VZ.mono (ND (t:=t) (C:=MoC (C9 t) (rW nt T ps a b)) (D:=fun _ _=>False) ⟨fun h hn hh=>h.mono hn hh,?_,?_,hs⟩ ?_ ?_ ?_) k
 .intro j hj st h1 h2 hC;rw[hn]at h1|-;exact hy j hj st h1 h2 hC
 .omega
 .refine⟨(BB (by omega)).trans g1,?_,?_,by omega⟩
  .rw[show 3=sB.next from nB.symm];exact Me
  .rw[show 4=sB.next+1 by omega];exact Md
 .omega
 .exact(BB (by omega)).trans g2
theorem most_to (t:KT) (hs:(C9 t).length<=100000):Cc (EK Ky) 84 [.agg (Cm t)] S0 (.int .i64 (YW (C9 t))):=by
 have e0:=AA t;rw[e0];refine HQ (fn:=Tryz.f84) (by kernel_rfl) U (by kernel_rfl) U U U U ?_;iterate 2 refine Eh U ?_
 refine Sq<|Es<|Ls 1 U<|AT (fn:=Tryz.f92) (by kernel_rfl) (by kernel_rfl) U U U U U U U U U U U<|Eh U<|Ew U ?_;refine Se (Al (Xw.new U (Aa U U) U U U U ?_));refine Ld<|Sb ?_;refine Aq fun sB W6=>?_;have g1:sB.heap.get 1=some (.cells [.int .i64 (-1)] 3 false):=by rw[W6];exact AD 1
 have g2:sB.heap.get 2=some (.cells (Cm t) 26 false):=by rw[W6,e0];exact AD 2
 have nB:sB.next=3:=by rw[W6];rfl
 have bB:sB.bound=0:=by rw[W6];rfl
 have lB:sB.log=[]:=by rw[W6];rfl
 clear W6;refine HM U U (by kernel_rfl) fun T ir=>?_;have hT:Has [(3,.ptr 1 0)] T:=ir.sub (Ah (by repeat' constructor));clear ir;refine RZ hs g1 g2 nB ?_ ?_
 .intro j hj st q1 q2 hC;have Co:=hC.lt;have hms:=Ue hj;generalize hx:(C9 t)[j]=x at*;have ex:=AA x;rw[ex];refine⟨_,_,_,hC.lp,U,hT.put 7 _,?_⟩;have cc:=Bg (st:=st) (z:=[.int .i64 0,.int .i64 0,.Ca]) (cs:=[.int .i64 x.op,.int .i64 x.n,CM Cm 3 x.kids]) (T:=26);have a1:=cc.h1;refine Sr<|Lo (kz U) U<|Ln (kw U a1 U) U<|Ld ?_;refine⟨U,_,(cc.h4 4 (by omega)).trans hC.lp,U,?_⟩;refine Aq fun sX WZ=>?_;have xo:∀d,d≠4->d<st.next->sX.heap.get d=st.heap.get d:=fun d hd h=>by rw[WZ];exact(Aw.trans (if_neg hd)).trans (cc.h4 d h)
  have qt:sX.heap.get st.next=some (.cells [.int .i64 x.op,.int .i64 x.n,CM Cm 3 x.kids] 26 false):=by rw[WZ];exact(Aw.trans (if_neg (by omega))).trans cc.h2
  have xl:=(congrArg (fun s=>s.heap.get 4) WZ).trans (Aw.trans (if_pos rfl));have bX:sX.bound=st.bound:=by rw[WZ];exact cc.h5
  have nX:sX.next=st.next+1:=by rw[WZ];exact cc.h7
  have mX:4∈sX.log:=by rw[WZ];exact Bk (Nat.lt_of_lt_of_eq (show 4<st.bound by omega) cc.h5.symm)
  have lX:∀d∈sX.log,d∈st.log\/d<st.bound:=fun d hd=>by
   rw[WZ]at hd;rcases AR hd with h|⟨_,h⟩
   .exact .inl (by rw[<-cc.h6 q2];exact h)
   .exact .inr (by rw[<-cc.h5];exact h)
  have x1:=(xo 1 (by decide) (by omega)).trans hC.g1;have x3:=(xo 3 (by decide) (by omega)).trans hC.df;have xf:∀d,5<=d->d<st.next->sX.heap.get d=st.heap.get d:=fun d h1 h2=>xo d (by omega) h2;clear WZ;generalize YW ((C9 t).take j)=m at*;have fin:∀(sY:St) (fR:aY),sY.next=st.next+1->sY.bound=st.bound->4∈sY.log->(∀d∈sY.log,d∈st.log\/d<st.bound)->(∀d,5<=d->d<st.next->sY.heap.get d=st.heap.get d)->sY.heap.get 1=some (.cells [.int .i64 (YW ((C9 t).take (j+1)))] 3 false)->sY.heap.get 3=some (.defs true)->∀lp0,Cw.loop {fR with state:= .ready,pending:=none}=Cw.loop lp0->
   st.next<=(sY.put 4 (some (.loop {fR with state:= .ready,pending:=none}))).next/\(sY.put 4 (some (.loop {fR with state:= .ready,pending:=none}))).bound=st.bound/\4∈(sY.put 4 (some (.loop {fR with state:= .ready,pending:=none}))).log/\(∀d∈(sY.put 4 (some (.loop {fR with state:= .ready,pending:=none}))).log,d∈st.log\/d<st.bound)/\
   (∀d,5<=d->d<st.next->(sY.put 4 (some (.loop {fR with state:= .ready,pending:=none}))).heap.get d=st.heap.get d)/\(true=true->MoC (C9 t) lp0 (j+1) (sY.put 4 (some (.loop {fR with state:= .ready,pending:=none}))).next (sY.put 4 (some (.loop {fR with state:= .ready,pending:=none}))).heap)/\(true=false->False):=by
   intro sY fR nY bY ym yg yf y1 y3 lp0 hlp;refine⟨by show st.next<=sY.next;omega,bY,AN ym,fun d hd=>?_,fun d h1 h2=>?_,fun _=>⟨(Aw.trans (if_neg (by decide))).trans y1,(Aw.trans (if_neg (by decide))).trans y3,(Aw.trans (if_pos U)).trans (congrArg some hlp),by show 5<=sY.next;omega⟩,fun h=>by cases h⟩
   .rcases AR hd with h|⟨_,h⟩
    .exact yg d h
    .exact .inr (by rw[<-bY];exact h)
   .have h6:d≠4:=by omega
    exact(Aw.trans (if_neg h6)).trans (yf d h1 h2)
  focus
   refine Sb<|Es<|Lv 1 U<|Lo (kl U qt U) U<|Lw U ?_;refine Cd U (fun h3=>?_) (fun h3=>?_);refine Sr<|Lo (kl U x1 U) U<|Lv 1 U<|Lo (kl U qt U) U ?_;rotate_left;refine Sk ?_;rotate_left
  .refine Lq (X9.maxI U U U U U) U ?_;refine Ln (kw U x1 U) U<|Ld ?_;refine⟨U,_,(Aw.trans (if_neg (by decide))).trans xl,?_⟩;refine fin (sX.put 1 (some (.cells [.int .i64 (if m<x.n then x.n else m)] 3 false))) _ nX bX (AN mX) (fun d hd=>?_) (fun d h1 h2=>?_) ((Aw.trans (if_pos U)).trans ?_) ((Aw.trans (if_neg (by decide))).trans x3) _ U
   .rcases AR hd with h|⟨_,h⟩
    .exact lX d h
    .exact .inr (by rw[<-bX];exact h)
   .have h6:d≠1:=by omega
    exact(Aw.trans (if_neg h6)).trans (xf d h1 h2)
   .rw[hms];by_cases hm:m<x.n
    .rw[if_pos hm,if_pos ⟨by assumption,hm⟩]
    .rw[if_neg hm,if_neg (fun h=>hm h.2)]
  .refine⟨U,_,xl,?_⟩;refine fin _ _ nX bX mX lX xf (x1.trans ?_) x3 _ U;rw[hms,if_neg (fun h=>by have:=h.1;contradiction)]
 .rintro w s3 ⟨e1,e2,e3,e4⟩;have bR:s3.bound=0:=e1.trans bB;have lR:s3.log=[]:=List.eq_nil_iff_forall_not_mem.2 fun d hd=>by
   rcases e3 d hd with h|h
   .have h:d∈sB.log:=h;rw[lB]at h;cases h
   .have h:d<sB.bound:=h;omega
  clear e1 e2 e3;rw[nB];rcases e4 with hC|hD
  .refine⟨_,hC.lp,(fun h=>by cases h),?_⟩;show Cz (EK Ky) _ _ _ _ _;refine Aq fun sZ p9=>?_;have g1:=hC.g1;rw[List.take_length]at g1;have z1:sZ.heap.get 1=some (.cells [.int .i64 (YW (C9 t))] 3 false):=by rw[p9];exact(Aw.trans (if_neg (by decide))).trans g1
   have z3:sZ.heap.get 3=some (.defs true):=by rw[p9];exact(Aw.trans (if_neg (by decide))).trans hC.df
   have bZ:sZ.bound=0:=by rw[p9];exact bR
   have lZ:sZ.log=[]:=by rw[p9];exact(Ez bR).trans lR
   clear p9;refine Es<|Lo (kl U z1 U) U<|Lw U ?_;obtain⟨s',f1,f2,f3,f4,f5⟩:=Ep (rs:=[3]) (s:=sZ) (List.nodup_cons.2 ⟨(fun h=>by cases h),List.nodup_nil⟩) (fun q hq=>by rw[Qn.1 hq];exact z3);refine Se ?_;exact⟨.inl U,s',f1,(f4 bZ).trans lZ,f3.trans bZ,[.int .i64 (YW (C9 t))],_,[],Aa U U,U,U,U⟩
  .exact hD.elim
abbrev BgT:= {t:KT//Wa t<=100000}
def sd (t:BgT):List AV:=[.agg (Cm t.1)]
theorem Vl (x y:BgT) (h:sd x=sd y):x=y:=Subtype.ext (BR _ _ (AV.agg.inj (List.cons.inj h).1))
noncomputable def Kz:=W7 Ky 84 sd (fun t=> .int .i64 (YW (C9 t.1)))
theorem hq_84 {t:KT} (h:Wa t<=100000):Kz 84 [.agg (Cm t)]=some (.int .i64 (YW (C9 t))):=An (enc:=sd) (fun a b h=>by rw[Vl a b h]) ⟨t,h⟩
abbrev FoT:= {p:List DT×KT//p.1.length<=1000/\Wa p.2<=100000}
def pE (p:FoT):List AV:=[We p.1.1,.agg (Cm p.1.2)]
theorem Vi (x y:FoT) (h:pE x=pE y):x=y:=by
 obtain⟨⟨a,b⟩,_⟩:=x;obtain⟨⟨a',b'⟩,_⟩:=y;simp only[pE,List.cons.injEq,AV.agg.injEq,and_true]at h;obtain⟨h0,h1⟩:=h;obtain rfl:=BR _ _ h1;obtain rfl:=EG h0;rfl
noncomputable def L0:=W7 Kz 37 pE (fun p=> .bool (CG p.1.1 20 p.1.2))
theorem hq_37 {ds:List DT} {t:KT} (hd:ds.length<=1000) (h:Wa t<=100000):L0 37 [We ds,.agg (Cm t)]=some (.bool (CG ds 20 t)):=An (enc:=pE) (fun a b h=>by rw[Vi a b h]) ⟨(ds,t),hd,h⟩
theorem all0 (h:Wq Tryz.prog 8 [] (.bool true)):Cq Tryz.prog gn L0:=by
 have a1:Cq Tryz.prog gn Kz:=A3 Ax Aj (ally h) (fun t:BgT=>most_to t.1 (by rw[F7];exact t.2)) (fun p=>Br _ _ rfl) (fun _=>rfl);exact A7 a1 fun p=>AP Ax Aj (ally h) (type_to p.1.1 p.1.2 p.2.1 (by rw[F7];exact p.2.2)) (by
  show(Cj 40 (We p.1.1)&&(AV.agg (Cm p.1.2)::[]).all (Cj 40))=true;rw[Ed,Br _ _ rfl];rfl) rfl
theorem Re:∀ {w:List UInt8} {i:Nat},i<w.length->(byteCells w)[i]?=some (.int .u8 ((w.getD i 0).toNat:Nat))
 |b::w,0,_=>rfl
 |b::w,i+1,h=>Re (w:=w) (i:=i) (Nat.lt_of_succ_lt_succ h)
theorem Pu (w:List UInt8) (hw:w.length<=100000):Cc (EK L0) 81 [.str w] S0 (.bool (aj w)):=by
 have hle:=Et XA w;refine As U<|Ew U<|Sq<|Es<|qm U<|Lo (K5 1 U CT LO Aab U U) U<|Lw U<|Sb ?_;refine Ai (fun i:Nat=>([(8,.int .i64 (i:Nat)),(7,.int .i64 (w.length:Nat)),(6,.slice 0 0 w.length 1 none),(0,.str w)],Xj 1 0 [] [(0,some (.cells (byteCells w) 5 true))])) (fun i=>w.length-i) (fun i=>i<=tw XA w) 0 (Qm _) U (Ah (by repeat' constructor)) fun i hi=>?_;by_cases h:i<w.length
 .have hL:Wy (EK L0) 5 (Xj 1 0 [] [(0,some (.cells (byteCells w) 5 true))]) (.ptr 0 (0+i*(0+1)))=some (.int .u8 ((w.getD i 0).toNat:Nat)):=
   AI ag_5 vX (AD 0) (by rw[Nat.zero_add,Nat.zero_add,Nat.mul_one];exact Re h)
  have hc:=(w.getD i 0).toNat_lt;have hy:=H5 hi h;have hn:=GM hi h;generalize w.getD i 0=c at*;focus
   refine Ew U<|Sq ?_;refine Cd U (fun h1=>?_) (fun h1=>?_);refine Sk<|Sq<|Sb<|Es ?_;refine Lq (kM U (by omega)) U ?_;refine Lo (B9 U U hL) U<|Lw U<|Es<|qm U<|Lq (JN U u_5 o9 U ⟨by omega,by omega⟩) U<|AT (fn:=Tryz.f78) (by kernel_rfl) (by kernel_rfl) U U U U U U U U U U U<|Ew U<|Es<|Lv 4 U ?_;refine Bd U (fun h2=>?_) (fun h2=>?_);refine Lw U ?_;refine Se (Al (Xw.same U (Aa U U) U U U U ?_));refine Lv 2 U ?_;refine Be U (fun h3=>?_) (fun h3=>?_);refine Lv 1 U<|Lh U U (JN U u_5 o9 U ⟨by omega,by omega⟩)<|Gn U U U U U<|AT (fn:=Tryz.f78) (by kernel_rfl) (by kernel_rfl) U U U U U U U U U U U<|Ew U<|Es<|Lv 4 U ?_;refine Bd U (fun h4=>?_) (fun h4=>?_);refine Lw U ?_;refine Se (Al (Xw.same U (Aa U U) U U U U ?_));refine Lw U ?_;refine Ce U (fun h5=>?_) (fun h5=>?_);refine Ew U ?_;refine Se (Er U ?_);refine Ab ?_;rotate_left;exact absurd h5 (by omega);exact absurd h4 (by omega)
   refine Lw U<|Tf U<|Sk<|Sr ?_;refine Lq (ka (b:=1) U (by omega)) U ?_;refine Lw U ?_;rotate_left;refine Lw U ?_;refine Se (Al (Xw.same U (Aa U U) U U U U ?_));refine Lv 3 U<|Lh U U (JN U u_5 o9 U ⟨by omega,by omega⟩)<|Gn U U U U U<|AT (fn:=Tryz.f78) (by kernel_rfl) (by kernel_rfl) U U U U U U U U U U U<|Ew U<|Es<|Lv 4 U ?_;refine Bd U (fun h6=>?_) (fun h6=>?_);refine Lw U ?_;refine Se (Al (Xw.same U (Aa U U) U U U U ?_));refine Lw U ?_;refine Ce U (fun h7=>?_) (fun h7=>?_);refine Ew U ?_;refine Se (Er U ?_);refine Ab ?_;rotate_left;refine Sk<|Sr ?_;refine Lq (ka (b:=1) U (by omega)) U ?_;refine Lw U ?_;rotate_left;refine Lw U ?_;refine Se (Al (Xw.same U (Aa U U) U U U U ?_));refine Lw U<|Tt U<|Ew U ?_;refine Se (Er U ?_);refine Ab ?_;rotate_left;exact absurd h1 (by omega)
  .exact(hn (by omega)).symm
  .exact⟨i+1,hy (by omega),by show w.length-(i+1)<w.length-i;omega,U,U,Ah (by repeat' constructor)⟩
  .exact(hn (by omega)).symm
  .exact⟨i+1,hy (by omega),by show w.length-(i+1)<w.length-i;omega,U,U,Ah (by repeat' constructor)⟩
  .exact(hn (by omega)).symm
 .have e:tw XA w=w.length:=by omega
  unfold aj;rw[decide_eq_true e];focus
   refine Ew U<|Sq ?_;refine Cd U (fun h1=>?_) (fun h1=>?_);exact absurd h1 (by omega);refine Sx<|A8 U<|Es<|qm U<|Lq (Ac U U U U CT U) U<|AT (fn:=Tryz.f78) (by kernel_rfl) (by kernel_rfl) U U U U U U U U U U U<|Ew U<|Es<|Lv 4 U ?_;refine Bd U (fun h2=>?_) (fun h2=>?_);refine Lw U ?_;refine Se (Al (Xw.same U (Aa U U) U U U U ?_));refine Lw U ?_;refine Se (Er U ?_);refine Ab ?_;rotate_left;refine Lw U ?_;refine Se (Al (Xw.same U (Aa U U) U U U U ?_));refine Lw U ?_;refine Se (Er U ?_);refine Ab ?_;rotate_left
  .rw[decide_eq_true (show 1<=w.length by omega),show decide ((w.length:Int)<=8)=decide (w.length<=8)from decide_eq_decide.2 (by omega)];rfl
  .rw[decide_eq_false (show¬1<=w.length by omega)];rfl
noncomputable def L1:=W7 L0 81 ZY (fun w=> .bool (aj w.1))
theorem hq_81 {w:List UInt8} (hw:w.length<=100000):L1 81 [.str w]=some (.bool (aj w)):=An (enc:=ZY) (fun a b h=>by rw[Ea a b h]) ⟨w,hw⟩
theorem Vt (d:DT) (hn:d.name.length<=100000):Cc (EK L1) 80 [.agg (Y9 d)] S0 (.bool (jD d)):=by
 have hit_81:L1 81 [.str d.name]=some (.bool (aj d.name)):=hq_81 hn;unfold Y9 jD;refine As U ?_;focus
  refine Eh U<|Es<|Ls 2 U ?_;refine Lo (kc U (hit_81)) U<|qm U ?_;refine Bb U (fun g1=>?_) (fun g1=>?_);refine Ls 2 U<|Gn U U U U U<|AT (fn:=Tryz.f78) (by kernel_rfl) (by kernel_rfl) U U U U U U U U U U U<|Ew U<|Es<|Lv 4 U ?_;refine Bd U (fun h2=>?_) (fun h2=>?_);refine Lw U ?_;refine Se (Al (Xw.same U (Aa U U) U U U U ?_));refine Lv 2 U ?_;refine Bd U (fun h3=>?_) (fun h3=>?_);refine Lx U ?_;refine Se (Er U ?_);refine Ab ?_;rotate_left;refine Lw U ?_;refine Se (Er U ?_);refine Ab ?_;rotate_left;refine Lw U ?_;refine Se (Al (Xw.same U (Aa U U) U U U U ?_));refine Lw U ?_;refine Se (Er U ?_);refine Ab ?_;rotate_left;refine Lw U ?_;refine Se (Er U ?_);refine Ab ?_;rotate_left
 .rw[show aj d.name=true by assumption,decide_eq_true (show 0<=d.params by omega),decide_eq_true (show d.params<=3 by omega),show decide (0<(d.cons.length:Int))=decide (1<=d.cons.length)from decide_eq_decide.2 (by omega)];rfl
 .rw[decide_eq_false (show¬d.params<=3 by assumption)];simp
 .rw[decide_eq_false (show¬0<=d.params by assumption)];simp
 .rw[show aj d.name=false by assumption];rfl
abbrev D1T:= {d:DT//d.name.length<=100000}
def se (d:D1T):List AV:=[.agg (Y9 d.1)]
theorem Vk (a b:D1T) (h:se a=se b):a=b:=Subtype.ext (QV _ _ (AV.agg.inj (List.cons.inj h).1))
noncomputable def L2:=W7 L1 80 se (fun d=> .bool (jD d.1))
theorem hq_80 {d:DT} (hn:d.name.length<=100000):L2 80 [.agg (Y9 d)]=some (.bool (jD d)):=An (enc:=se) (fun a b h=>by rw[Vk a b h]) ⟨d,hn⟩
theorem all2 (h:Wq Tryz.prog 8 [] (.bool true)):Cq Tryz.prog gn L2:=by
 have a1:Cq Tryz.prog gn L1:=A3 Ax Aj (all0 h) (fun w:Str=>Pu w.1 w.2) (fun _=>rfl) (fun _=>rfl);exact A3 Ax Aj a1 (fun d:D1T=>Vt d.1 d.2) (fun _=>rfl) (fun _=>rfl)
theorem J4 (ds:List DT) (hs:CD ds=true):Cc (EK L2) 79 [We ds] S0 (.int .i64 (ZU ds ds.length:Nat)):=by
 obtain⟨h8,XT⟩:=Da hs;refine As U ?_;have Za:∀n,n<=ds.length->ZU ds n<=15*n:=fun n=>by
  induction n with
  |zero=>intro _;exact Qj _
  |succ n ih=>intro h;rw[FK (by omega)];have:=(XT n (by omega)).2.1;have:=ih (by omega);omega
 iterate 2 refine Ew U ?_
 refine Sq<|Ew U<|Sb ?_;refine Ai (fun x:Nat×St=>([(8,.int .i64 (x.1:Nat)),(7,.int .i64 (ds.length:Nat)),(6,We ds),(3,.int .i64 (ZU ds x.1:Nat))],x.2)) (fun x=>ds.length-x.1)
  (fun x=>x.1<=ds.length/\x.2.bound=0/\x.2.log=[]) (0,_) ⟨Qm _,rfl,rfl⟩ rfl (Ah (by repeat' constructor)) ?_
 rintro⟨i,st⟩ ⟨hi,ZR,ZE⟩;dsimp only at hi ZR ZE|-;by_cases h:i<ds.length
 .have Yz:=A9 AS h;obtain⟨hn20,hc15,hc6⟩:=XT i h;obtain⟨c1,c2,c3,c4,c5,c6,c7⟩:=Bg (st:=st) (z:=[.str [],.int .i64 0,.Ca]) (cs:=[.str ds[i].name,.int .i64 ds[i].params,CM XS 1 ds[i].cons]) (T:=54);have Wt:=FK h;have X7:=Za i hi;unfold Y9 at Yz;focus
   refine Ew U<|Sq ?_;refine Cd U (fun h1=>?_) (fun h1=>?_);refine Sk<|Sq<|Sb<|Es<|Lq (kv U Yz) U<|Lv 1 U<|Lo (kz U) U<|Ln (kw U c1 U) U<|Ld<|Sr<|Lv 2 U<|Lo (kl U c2 U) U<|Lv 1 U ?_;refine Lq (ka U (by omega)) U ?_;refine Lw U<|Sr ?_;refine Lq (ka (b:=1) U (by omega)) U ?_;refine Lw U ?_;rotate_left;exact absurd h1 (by omega)
  exact⟨(i+1,_),⟨h,c5.trans ZR,(c6 (by omega)).trans ZE⟩,by show ds.length-(i+1)<ds.length-i;omega,U,U,by dsimp only;rw[Wt];(refine Am.Ah ?_;repeat (first|exact trivial|refine⟨U,?_⟩))⟩
 .obtain rfl:i=ds.length:=by omega
  focus
   refine Ew U<|Sq ?_;refine Cd U (fun h1=>?_) (fun h1=>?_);exact absurd h1 (by omega);refine Sx<|A8 U<|Ew U ?_;refine Se ⟨.inl U,U,ZE,ZR,_,_,_,(Aa U U),U,U,?_⟩;rotate_left
  rfl
abbrev SmP:= {ds:List DT//CD ds=true}
noncomputable def L3:=W7 L2 79 fA (fun p=> .int .i64 (ZU p.1 p.1.length:Nat))
theorem hq_79 {ds:List DT} (h:CD ds=true):L3 79 [We ds]=some (.int .i64 (ZU ds ds.length:Nat)):=An (enc:=fA) (fun a b h=>by rw[Hb a b h]) ⟨ds,h⟩
theorem all3 (h:Wq Tryz.prog 8 [] (.bool true)):Cq Tryz.prog gn L3:=A3 Ax Aj (all2 h) (fun p:SmP=>J4 p.1 p.2) (fun _=>rfl) (fun _=>rfl)
def Old (s s':St):Prop:=s.next<=s'.next/\∀d,d<s.next->s'.heap.get d=s.heap.get d
theorem Old.trans {a b c:St} (h:Old a b) (g:Old b c):Old a c:=⟨Nat.le_trans h.1 g.1,fun d hd=>(g.2 d (Nat.lt_of_lt_of_le hd h.1)).trans (h.2 d hd)⟩
theorem Old.alloc {s:St} {o:Cw}:Old s.enter (s.enter.alloc o):=⟨Nat.le_succ _,fun _ h=>Ao h⟩
def kX {α:Type} (p:α->Bool) (l:List α):Int:=if fW (fun x=> !p x) l<l.length then((fW (fun x=> !p x) l:Nat):Int)else-1
theorem Mw {α:Type} {p:α->Bool} {l:List α}:decide (0<=kX p l)=l.any p:=by
 rw[Tg];unfold kX;by_cases h:fW (fun x=> !p x) l<l.length
 .rw[if_pos h,decide_eq_true h,decide_eq_true (by omega)]
 .rw[if_neg h,decide_eq_false h];rfl
theorem PJ {α:Type} {p:α->Bool} {l:List α}:(!l.any fun x=> !p x)=l.all p:=by
 induction l with
 |nil=>rfl
 |cons a l ih=>rw[List.any_cons,List.all_cons,<-ih];cases p a<;>rfl
section
variable {g : FuncId} {cap : List AV} {p : DT -> Bool} {P : DT -> Prop} {st : St}
theorem V2 (hb:C7 (EK L3) g=true) {bi:Nat} (ll:bi<st.next) (gi:st.heap.get bi=some (.cells [.func (.func g) [] cap] 154 false)) (X7:∀s',Old st s'->∀x,P x->Cc (EK L3) g (.agg (Y9 x)::cap) s' (.bool (p x))) (x:DT) (hx:P x):
 Cc (EK L3) 151 [.agg (Y9 x),.ptr bi 0] st (.bool (!p x)):=by
 refine Cc.flat (fn:=Tryz.f151) U (by kernel_rfl) U U U U (fun _ _=>rfl) (fun _=>rfl) ?_;have g1:(st.enter.alloc (.cells [.str x.name,.int .i64 x.params,CM XS 1 x.cons] 54 false)).heap.get bi=some (.cells [.func (.func g) [] cap] 154 false):=(Ao ll).trans gi;have g2:(st.enter.alloc (.cells [.str x.name,.int .i64 x.params,CM XS 1 x.cons] 54 false)).heap.get st.next=some (.cells [.str x.name,.int .i64 x.params,CM XS 1 x.cons] 54 false):=A4;have hc:=X7 (st.enter.alloc (.cells [.str x.name,.int .i64 x.params,CM XS 1 x.cons] 54 false)) Old.alloc x hx;unfold Y9 at hc|-;refine Es<|Lo (AO U U U) U<|Lw U<|Es<|Lo (kl U g1 U) U<|Lo (kL U g2 U) U<|Lo (BJ U U U hb U hc) U<|Lw U ?_;exact Se ⟨.inl U,U,U,_,Aa U U,U⟩
theorem U4 {h:FuncId} {aS:List AV} {q:DT->Bool} (hb:C7 (EK L3) h=true) (X7:∀s',s'.heap=st.heap->s'.next=st.next->∀x,P x->Cc (EK L3) h (.agg (Y9 x)::aS) s' (.bool (q x))) (l:List DT) (hn:l.length<=4000) (hP:∀x∈l,P x):
 Cc (EK L3) 227 [We l,.func (.func h) [] aS] st (.int .i64 (kX q l)):=by
 refine Cc.flat (fn:=Tryz.f227) U (by kernel_rfl) U U U U (fun _ _=>rfl) (fun _=>rfl) ?_;have hle:=MW (fun x=> !q x) l;refine Ew U<|Sq<|Ew U<|Sb ?_;refine Ai (fun i:Nat=>([(8,.int .i64 (i:Nat)),(7,.int .i64 (l.length:Nat)),(1,.func (.func h) [] aS),(0,We l)],st.enter)) (fun i=>l.length-i) (fun i=>i<=fW (fun x=> !q x) l) 0 (Qm _) U (Ah (by repeat' constructor)) ?_;intro i hi;dsimp only at hi|-;by_cases h:i<l.length
 .have hp:=A9 AS h;have hs:=F3 (p:=fun x=> !q x) hi (Qi h);have hc:=X7 st.enter rfl rfl l[i] (hP _ (List.getElem_mem h));unfold Y9 at hp hc;focus
   refine Ew U<|Sq ?_;refine Cd U (fun h1=>?_) (fun h1=>?_);refine Sk<|Sq<|Sb<|Ew U<|Es<|Lv 3 U<|Lq (kv U hp) U<|Lv 1 U ?_;rotate_left;exact absurd h1 (by omega)
  refine Lo (BJ U U U hb U hc) U ?_;cases hq:q l[i]with
  |true=>
   refine Ld<|Tt U<|Ew U ?_;refine Se ⟨.inl U,U,U,_,Aa U U,?_⟩;have e:i=fW (fun x=> !q x) l:=by
    rw[hq]at hs;have:=mt hs.2 (by simp);omega
   unfold kX;rw[<-e,if_pos h];rfl
  |false=>
   refine Ld<|Tf U<|Sk<|Sr ?_;refine Lq (ka (b:=1) U (by omega)) U ?_;refine Lw U ?_;refine⟨i+1,?_,by show l.length-(i+1)<l.length-i;omega,U,U,Ah (by repeat' constructor)⟩;rw[hq]at hs;have:=hs.1 rfl;omega
 .focus
   refine Ew U<|Sq ?_;refine Cd U (fun h1=>?_) (fun h1=>?_);exact absurd h1 (by omega);refine Sx<|A8 U<|Ew U ?_;rotate_left
  refine Se ⟨.inl U,U,U,_,Aa U U,?_⟩;unfold kX;rw[if_neg (by omega)];rfl
theorem O4 {h:FuncId} {aS:List AV} {q:DT->Bool} (hb:C7 (EK L3) h=true) (X7:∀s',s'.heap=st.heap->s'.next=st.next->∀x,P x->Cc (EK L3) h (.agg (Y9 x)::aS) s' (.bool (q x))) (l:List DT) (hn:l.length<=4000) (hP:∀x∈l,P x):
 Cc (EK L3) 150 [We l,.func (.func h) [] aS] st (.bool (l.any q)):=by
 refine Cc.flat (fn:=Tryz.f150) U (by kernel_rfl) U U U U (fun _ _=>rfl) (fun _=>rfl) ?_;have hi:=U4 (st:=st.enter) hb (fun s' h1 h2 x hx=>X7 s' h1 h2 x hx) l hn hP;refine Ew U<|Es<|Lv 2 U<|Lo (Av U U (by kernel_rfl) U hi) U<|Lw U ?_;refine Se ⟨.inl U,U,U,_,Aa U U,?_⟩;rw[<-Mw];rfl
theorem UV (hb:C7 (EK L3) g=true) (X7:∀s',Old st s'->∀x,P x->Cc (EK L3) g (.agg (Y9 x)::cap) s' (.bool (p x))) (l:List DT) (hn:l.length<=4000) (hP:∀x∈l,P x):
 Cc (EK L3) 82 [We l,.func (.func g) [] cap] st (.bool (l.all p)):=by
 refine Cc.flat (fn:=Tryz.f82) U (by kernel_rfl) U U U U (fun _ _=>rfl) (fun _=>rfl) ?_;have hc:=O4 (st:=st.enter.alloc (.cells [.func (.func g) [] cap] 154 false)) (h:=151) (aS:=[.ptr st.next 0]) (P:=P) (q:=fun x=> !p x) (by kernel_rfl) (fun s' h1 h2 x hx=>
  V2 hb (by rw[h2];exact Nat.lt_succ_self _) (by rw[h1];exact A4) (fun s2 h3 x hx=>X7 s2 (Old.trans ⟨by rw[h2];exact Nat.le_succ _,fun d hd=>by rw[h1];exact Ao hd⟩ h3) x hx) x hx) l hn hP
 rw[<-PJ];refine Es<|Lo (AO U U U) U<|Lw U<|Es<|Lv 2 U<|Lo (Av U U (by kernel_rfl) U hc) U<|Lw U ?_;exact Se ⟨.inl U,U,U,_,Aa U U,U⟩
end
section
variable {g : FuncId} {cap : List AV} {p : List KT -> Bool} {P : List KT -> Prop} {st : St}
theorem V3 (hb:C7 (EK L3) g=true) {bi:Nat} (ll:bi<st.next) (gi:st.heap.get bi=some (.cells [.func (.func g) [] cap] 160 false)) (X7:∀s',Old st s'->∀x,P x->Cc (EK L3) g (CM Cm 3 x::cap) s' (.bool (p x))) (x:List KT) (hx:P x):
 Cc (EK L3) 153 [CM Cm 3 x,.ptr bi 0] st (.bool (!p x)):=by
 refine Cc.flat (fn:=Tryz.f153) U (by kernel_rfl) U U U U (fun _ _=>rfl) (fun _=>rfl) ?_;have g1:st.enter.heap.get bi=some (.cells [.func (.func g) [] cap] 160 false):=gi;have hc:=X7 st.enter ⟨Qj _,fun _ _=>rfl⟩ x hx;refine Ew U<|Es<|Lo (kl U g1 U) U<|qm U<|Lo (BJ U U U hb U hc) U<|Lw U ?_;exact Se ⟨.inl U,U,U,_,Aa U U,U⟩
theorem U5 {h:FuncId} {aS:List AV} {q:List KT->Bool} (hb:C7 (EK L3) h=true) (X7:∀s',s'.heap=st.heap->s'.next=st.next->∀x,P x->Cc (EK L3) h (CM Cm 3 x::aS) s' (.bool (q x))) (l:List (List KT)) (hn:l.length<=4000) (hP:∀x∈l,P x):
 Cc (EK L3) 228 [CM XS 1 l,.func (.func h) [] aS] st (.int .i64 (kX q l)):=by
 refine Cc.flat (fn:=Tryz.f228) U (by kernel_rfl) U U U U (fun _ _=>rfl) (fun _=>rfl) ?_;have hle:=MW (fun x=> !q x) l;refine Ew U<|Sq<|Ew U<|Sb ?_;refine Ai (fun i:Nat=>([(8,.int .i64 (i:Nat)),(7,.int .i64 (l.length:Nat)),(1,.func (.func h) [] aS),(0,CM XS 1 l)],st.enter)) (fun i=>l.length-i) (fun i=>i<=fW (fun x=> !q x) l) 0 (Qm _) U (Ah (by repeat' constructor)) ?_;intro i hi;dsimp only at hi|-;by_cases h:i<l.length
 .have hp:=A9 DD h;have hs:=F3 (p:=fun x=> !q x) hi (Qi h);have hc:=X7 st.enter rfl rfl l[i] (hP _ (List.getElem_mem h));unfold XS at hp;focus
   refine Ew U<|Sq ?_;refine Cd U (fun h1=>?_) (fun h1=>?_);refine Sk<|Sq<|Sb<|Ew U<|Es<|Lv 3 U<|Lq (kv U hp) U<|Lv 1 U ?_;rotate_left;exact absurd h1 (by omega)
  refine Lo (BJ U U U hb U hc) U ?_;cases hq:q l[i]with
  |true=>
   refine Ld<|Tt U<|Ew U ?_;refine Se ⟨.inl U,U,U,_,Aa U U,?_⟩;have e:i=fW (fun x=> !q x) l:=by
    rw[hq]at hs;have:=mt hs.2 (by simp);omega
   unfold kX;rw[<-e,if_pos h];rfl
  |false=>
   refine Ld<|Tf U<|Sk<|Sr ?_;refine Lq (ka (b:=1) U (by omega)) U ?_;refine Lw U ?_;refine⟨i+1,?_,by show l.length-(i+1)<l.length-i;omega,U,U,Ah (by repeat' constructor)⟩;rw[hq]at hs;have:=hs.1 rfl;omega
 .focus
   refine Ew U<|Sq ?_;refine Cd U (fun h1=>?_) (fun h1=>?_);exact absurd h1 (by omega);refine Sx<|A8 U<|Ew U ?_;rotate_left
  refine Se ⟨.inl U,U,U,_,Aa U U,?_⟩;unfold kX;rw[if_neg (by omega)];rfl
theorem O5 {h:FuncId} {aS:List AV} {q:List KT->Bool} (hb:C7 (EK L3) h=true) (X7:∀s',s'.heap=st.heap->s'.next=st.next->∀x,P x->Cc (EK L3) h (CM Cm 3 x::aS) s' (.bool (q x))) (l:List (List KT)) (hn:l.length<=4000) (hP:∀x∈l,P x):
 Cc (EK L3) 152 [CM XS 1 l,.func (.func h) [] aS] st (.bool (l.any q)):=by
 refine Cc.flat (fn:=Tryz.f152) U (by kernel_rfl) U U U U (fun _ _=>rfl) (fun _=>rfl) ?_;have hi:=U5 (st:=st.enter) hb (fun s' h1 h2 x hx=>X7 s' h1 h2 x hx) l hn hP;refine Ew U<|Es<|Lv 2 U<|Lo (Av U U (by kernel_rfl) U hi) U<|Lw U ?_;refine Se ⟨.inl U,U,U,_,Aa U U,?_⟩;rw[<-Mw];rfl
theorem UW (hb:C7 (EK L3) g=true) (X7:∀s',Old st s'->∀x,P x->Cc (EK L3) g (CM Cm 3 x::cap) s' (.bool (p x))) (l:List (List KT)) (hn:l.length<=4000) (hP:∀x∈l,P x):
 Cc (EK L3) 85 [CM XS 1 l,.func (.func g) [] cap] st (.bool (l.all p)):=by
 refine Cc.flat (fn:=Tryz.f85) U (by kernel_rfl) U U U U (fun _ _=>rfl) (fun _=>rfl) ?_;have hc:=O5 (st:=st.enter.alloc (.cells [.func (.func g) [] cap] 160 false)) (h:=153) (aS:=[.ptr st.next 0]) (P:=P) (q:=fun x=> !p x) (by kernel_rfl) (fun s' h1 h2 x hx=>
  V3 hb (by rw[h2];exact Nat.lt_succ_self _) (by rw[h1];exact A4) (fun s2 h3 x hx=>X7 s2 (Old.trans ⟨by rw[h2];exact Nat.le_succ _,fun d hd=>by rw[h1];exact Ao hd⟩ h3) x hx) x hx) l hn hP
 rw[<-PJ];refine Es<|Lo (AO U U U) U<|Lw U<|Es<|Lv 2 U<|Lo (Av U U (by kernel_rfl) U hc) U<|Lw U ?_;exact Se ⟨.inl U,U,U,_,Aa U U,U⟩
end
section
variable {g : FuncId} {cap : List AV} {p : KT -> Bool} {P : KT -> Prop} {st : St}
theorem V1 (hb:C7 (EK L3) g=true) {bi:Nat} (ll:bi<st.next) (gi:st.heap.get bi=some (.cells [.func (.func g) [] cap] 29 false)) (X7:∀s',Old st s'->∀x,P x->Cc (EK L3) g (.agg (Cm x)::cap) s' (.bool (p x))) (x:KT) (hx:P x):
 Cc (EK L3) 155 [.agg (Cm x),.ptr bi 0] st (.bool (!p x)):=by
 refine Cc.flat (fn:=Tryz.f155) U (by kernel_rfl) U U U U (fun _ _=>rfl) (fun _=>rfl) ?_;have g1:(st.enter.alloc (.cells [.int .i64 x.op,.int .i64 x.n,CM Cm 3 x.kids] 26 false)).heap.get bi=some (.cells [.func (.func g) [] cap] 29 false):=(Ao ll).trans gi;have g2:(st.enter.alloc (.cells [.int .i64 x.op,.int .i64 x.n,CM Cm 3 x.kids] 26 false)).heap.get st.next=some (.cells [.int .i64 x.op,.int .i64 x.n,CM Cm 3 x.kids] 26 false):=A4;have hc:=X7 (st.enter.alloc (.cells [.int .i64 x.op,.int .i64 x.n,CM Cm 3 x.kids] 26 false)) Old.alloc x hx;rw[AA]at hc|-;refine Es<|Lo (AO U U U) U<|Lw U<|Es<|Lo (kl U g1 U) U<|Lo (kL U g2 U) U<|Lo (BJ U U U hb U hc) U<|Lw U ?_;exact Se ⟨.inl U,U,U,_,Aa U U,U⟩
theorem U2 {h:FuncId} {aS:List AV} {q:KT->Bool} (hb:C7 (EK L3) h=true) (X7:∀s',s'.heap=st.heap->s'.next=st.next->∀x,P x->Cc (EK L3) h (.agg (Cm x)::aS) s' (.bool (q x))) (l:List KT) (hn:l.length<=4000) (hP:∀x∈l,P x):
 Cc (EK L3) 229 [CM Cm 3 l,.func (.func h) [] aS] st (.int .i64 (kX q l)):=by
 refine Cc.flat (fn:=Tryz.f229) U (by kernel_rfl) U U U U (fun _ _=>rfl) (fun _=>rfl) ?_;have hle:=MW (fun x=> !q x) l;refine Ew U<|Sq<|Ew U<|Sb ?_;refine Ai (fun i:Nat=>([(8,.int .i64 (i:Nat)),(7,.int .i64 (l.length:Nat)),(1,.func (.func h) [] aS),(0,CM Cm 3 l)],st.enter)) (fun i=>l.length-i) (fun i=>i<=fW (fun x=> !q x) l) 0 (Qm _) U (Ah (by repeat' constructor)) ?_;intro i hi;dsimp only at hi|-;by_cases h:i<l.length
 .have hp:=EF h;have hs:=F3 (p:=fun x=> !q x) hi (Qi h);have hc:=X7 st.enter rfl rfl l[i] (hP _ (List.getElem_mem h));rw[AA]at hp hc;focus
   refine Ew U<|Sq ?_;refine Cd U (fun h1=>?_) (fun h1=>?_);refine Sk<|Sq<|Sb<|Ew U<|Es<|Lv 3 U<|Lq (kv U hp) U<|Lv 1 U ?_;rotate_left;exact absurd h1 (by omega)
  refine Lo (BJ U U U hb U hc) U ?_;cases hq:q l[i]with
  |true=>
   refine Ld<|Tt U<|Ew U ?_;refine Se ⟨.inl U,U,U,_,Aa U U,?_⟩;have e:i=fW (fun x=> !q x) l:=by
    rw[hq]at hs;have:=mt hs.2 (by simp);omega
   unfold kX;rw[<-e,if_pos h];rfl
  |false=>
   refine Ld<|Tf U<|Sk<|Sr ?_;refine Lq (ka (b:=1) U (by omega)) U ?_;refine Lw U ?_;refine⟨i+1,?_,by show l.length-(i+1)<l.length-i;omega,U,U,Ah (by repeat' constructor)⟩;rw[hq]at hs;have:=hs.1 rfl;omega
 .focus
   refine Ew U<|Sq ?_;refine Cd U (fun h1=>?_) (fun h1=>?_);exact absurd h1 (by omega);refine Sx<|A8 U<|Ew U ?_;rotate_left
  refine Se ⟨.inl U,U,U,_,Aa U U,?_⟩;unfold kX;rw[if_neg (by omega)];rfl
theorem O2 {h:FuncId} {aS:List AV} {q:KT->Bool} (hb:C7 (EK L3) h=true) (X7:∀s',s'.heap=st.heap->s'.next=st.next->∀x,P x->Cc (EK L3) h (.agg (Cm x)::aS) s' (.bool (q x))) (l:List KT) (hn:l.length<=4000) (hP:∀x∈l,P x):
 Cc (EK L3) 154 [CM Cm 3 l,.func (.func h) [] aS] st (.bool (l.any q)):=by
 refine Cc.flat (fn:=Tryz.f154) U (by kernel_rfl) U U U U (fun _ _=>rfl) (fun _=>rfl) ?_;have hi:=U2 (st:=st.enter) hb (fun s' h1 h2 x hx=>X7 s' h1 h2 x hx) l hn hP;refine Ew U<|Es<|Lv 2 U<|Lo (Av U U (by kernel_rfl) U hi) U<|Lw U ?_;refine Se ⟨.inl U,U,U,_,Aa U U,?_⟩;rw[<-Mw];rfl
theorem UU (hb:C7 (EK L3) g=true) (X7:∀s',Old st s'->∀x,P x->Cc (EK L3) g (.agg (Cm x)::cap) s' (.bool (p x))) (l:List KT) (hn:l.length<=4000) (hP:∀x∈l,P x):
 Cc (EK L3) 87 [CM Cm 3 l,.func (.func g) [] cap] st (.bool (l.all p)):=by
 refine Cc.flat (fn:=Tryz.f87) U (by kernel_rfl) U U U U (fun _ _=>rfl) (fun _=>rfl) ?_;have hc:=O2 (st:=st.enter.alloc (.cells [.func (.func g) [] cap] 29 false)) (h:=155) (aS:=[.ptr st.next 0]) (P:=P) (q:=fun x=> !p x) (by kernel_rfl) (fun s' h1 h2 x hx=>
  V1 hb (by rw[h2];exact Nat.lt_succ_self _) (by rw[h1];exact A4) (fun s2 h3 x hx=>X7 s2 (Old.trans ⟨by rw[h2];exact Nat.le_succ _,fun d hd=>by rw[h1];exact Ao hd⟩ h3) x hx) x hx) l hn hP
 rw[<-PJ];refine Es<|Lo (AO U U U) U<|Lw U<|Es<|Lv 2 U<|Lo (Av U U (by kernel_rfl) U hc) U<|Lw U ?_;exact Se ⟨.inl U,U,U,_,Aa U U,U⟩
end
end Go.Proofs.YtfhimfcbphepeaaGreatDoor.Ty
