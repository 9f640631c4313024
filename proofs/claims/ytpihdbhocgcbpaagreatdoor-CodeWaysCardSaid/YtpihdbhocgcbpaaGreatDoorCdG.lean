/- Code: ways, as the document has them; the law of ways. -/
import Derived.Test.YtpihdbhocgcbpaaGreatDoorCdA
import Derived.Test.YtpihdbhocgcbpaaGreatDoorCdF
import Derived.Test.YtpihdbhocgcbpaaGreatDoorCdB
set_option linter.unusedSectionVars false
set_option linter.unusedVariables false
set_option linter.unusedSimpArgs false
open Go Am
namespace Am
open Go
variable {js:List Nat} {all rest:List Oper} {ts:List TypeId} {i:Nat} {o:Oper} {od:Option Nat} {K:Sl->St->Prop}
theorem SW {E:c_} {fr:Fr} {l:Sl} {st:St} {nl:WG} {KN:PN} {c:Call} {t e:TypeId} {x y:Operand} {sz VZ n:Nat} {z v:AV} {cs new:List AV} (ah:a_ st e sz v cs n) (eN:st.c<=st.a) (XV:new.length=sz) (fj:0<sz) (aq:k7 1 VZ=true) (ao:k7 (n+1) VZ=true)
 (ho:o.op= .call c) (hc:c.callee= .builtin .append) (ht:c.argTypes.toList=t::ts) (ha:c.args.toList=[x,y])
 (hu:Wb E t=some (.slice e)) (X2:an E e=some sz) (cQ:i_ E e=some VZ) (hz:h_ E e=some z) (hk:(!(Nat.beq (Xu z.g) sz)||Nat.beq sz 0|| !(ZY E ts.head?))=false) (h0:Xw E ts.head?=false)
 (hx:Cg x (CW (b_ o.op.operands.toList) l)=some v) (hy:Cg y (CW (b_ o.op.operands.toList) l)=some (.Z st.a 0 1 sz (some 1)))
 (eP:∀j∈js,Nat.testBit (CX all i) j=true\/∃e∈KN.a,e.1=j) (hw:∀e∈KN.a,Nat.testBit (CX all i) e.1=true\/CB e.2.1 v=false) (cS:(nl.all fun p=>Nat.testBit (CX all i) p.1)=true) (hg:Wf all l o) (hd:o.dst=od) (C5:Wz fr.nt od=true)
 (h:∀v2 XW dA,a_ XW e sz v2 (cs++new) (n+1)->(∀c,CB c v2=true->st.a<=c)->CL st XW (fun c=>CB c v=true)->Ch st XW->(∀b,b<st.a->CB b v=false->∀a,Xe a b nl=true->Xe a b dA=true)->
  Cz E KN all rest (i+1) fr (WX od v2 l) XW (i::js) dA K):Cz E KN all (o::rest) i fr l (st.g (.J new e false)) js nl K:=by
 let sA:=st.g (.J new e false)
 have hG:a_ (sA.B sA.b) e sz v cs n:=ah.CQ (Nat.le_succ _) fun c hc=>Ap (ah.own hc);obtain⟨v2,s2,h1,h2,h3,h4,h5,h6,h7⟩:=hG.append (VZ:=VZ) XV fj aq ao;have e1:(sA.B sA.b).a=st.a+1:=rfl;have e2:(sA.B sA.b).c=st.a+1:=rfl;have e3:sA.a=st.a+1:=rfl;have e4:(st.g (.J new e false)).a=st.a+1:=rfl;have Yc:Ch (sA.B sA.b) s2:=EY (by omega) h1;have ed:CL (sA.B sA.b) s2 (fun c=>CB c v=true):=⟨by omega,h5,h6,fun c hc ho=>h7 c (by omega) (by simpa using ho)⟩
 have hm:=ed.G;have zJ:=Fc (st:=sA) (by omega) Yc rfl;have qY:(sA.A s2).a=s2.a:=rfl;refine LN (one:=false) (aX:= .Y) (x:=Ci E x) (f:=fun T s=>(Ci E x T).bind fun a=>(Ci E y T).bind fun b=>(CY s sz b).bind fun p=>CP s e sz VZ p.1 p.2 a) (by
  rw[ho];show Wo E o.type c=_;unfold Wo;rw[hc];simp only;rw[ht,ha];show aU E t ts.head? x y=_;unfold aU;rw[hu];simp only[X2,cQ,hz,hk,h0,cond_false]) (fun _ _=>rfl) (fun _ hn=>E8 cS hn) (Zl.append ho hc ht ha hu X2 cQ hz hk h0 hx hy (Bt (e:=e) (part:=false) Ax XV) h1) (by omega) (fun b hb=>⟨?_,AH cS⟩) eP (fun e he=>(hw e he).imp id fun Yh=> .inl fun hb=>?_) hg hd C5 (h v2 (sA.A s2) _ (h2.CQ (Nat.le_of_eq qY.symm) fun c hc=>zJ c (h2.own hc)) (fun c hc=>by have:=h2.news h3 c hc;omega)
  ⟨by omega,hm.a,fun c hc=>hm.e c hc,fun c hc ho=>(hm.b c (by omega) ho).trans (Ap hc)⟩ ((Ch.z eN).g (Ch.G (by omega) Yc (by show st.c<=st.a+1;omega))) fun b hb ho a ha=>?_)
 .rcases h6 b hb with h|⟨h,_⟩
  .cases h
  .omega
 .rcases h6 _ hb with h|⟨_,h⟩
  .cases h
  .rw[h]at Yh;cases Yh
 .refine ec.clear (HI (n:=sA.a) (lg:=s2.d)) ha (by omega) fun dD=>?_;rcases h6 b dD with h|⟨_,h⟩
  .cases h
  .rw[h]at ho;cases ho
end Am
namespace Go.Proofs.YtpihdbhocgcbpaaGreatDoor.Wy
variable {hd:C8->List AV} {q:C8×AV} {e p:Int} {L:List (C8×AV)} {M:List (Nat×Nat)} {vs:List AV} {l:List C8} {S pk ps:List Int} {ts:List Zz} {i k m mb nc ni r:Nat} {o:Oper}
theorem zr {E:c_} {l:Sl} {t e:TypeId} {x lo:Operand} (ho:o.op= .slice t x (some lo) none none) (hu:Wb E t=some (.slice e)) (hs:Am.an E e=some 1) (hx:Cg x l=some (Cq CN 1 (p::ps))) (qK:fA (some lo) l=some (some (.int .i64 1))):X3 E o l (Cq CN 1 ps):=by
 have hf:∀l:List Int,(l.flatMap CN).length=l.length:=fun l=>by
  induction l with
  |nil=>rfl
  |cons a l ih=>rw[List.flatMap_cons,Qm,ih,List.length_cons];exact Nat.add_comm _ _
 have h:=Th (n:=ps.length+1) (h:=ps.length+1) (a:=1) (hi:=none) (vhi:=none) (vlo:=some (.int .i64 1)) (cl:=true) (sz:=1) (cs:=(p::ps).flatMap CN) ho hu hs hx qK rfl rfl (show WB 0 (ps.length+1) (some (.int .i64 ((1:Nat):Int)))=some 1 from JW (by omega)) (by rw[hf,List.length_cons];omega);have e1:(((p::ps).flatMap CN).drop (1*1)).take ((ps.length+1-1)*1)=ps.flatMap CN:=by grind [List.take_of_length_le]
 rw[e1,Nat.add_sub_cancel]at h;exact h
theorem O9 (p:Int):∀a b:List WL,Z3 (a++b) p=(Z3 a p).or (Z3 b p)
 | [],b=>rfl
 |x::a,b=>by
  show(if x.1=p then some x.2 else Z3 (a++b) p)=Option.or (if x.1=p then some x.2 else Z3 a p) _;split
  .rfl
  .exact O9 p a b
theorem SU {l:List WL} (hs:∀j k (h:j<k) (hk:k<l.length),l[j].1<l[k].1) (hi:i<l.length) (p:Int):Z3 (l.take (i+1)) p=if l[i].1=p then some l[i].2 else Z3 (l.take i) p:=by
 rw[List.take_succ_eq_append_getElem hi,O9];show Option.or _ (if l[i].1=p then some l[i].2 else none)=_;by_cases h:l[i].1=p
 .rw[if_pos h,if_pos h];cases e:Z3 (l.take i) p with
  |none=>rfl
  |some t=>
   obtain⟨j,hj,e2⟩:=Hv e;rw[List.length_take]at hj;rw[List.getElem_take]at e2;have:=hs j i (by omega) hi;rw[e2,h]at this;exact absurd this (Int.lt_irrefl _)
 .grind
theorem alts_up {l:List WL} (h:gO nc ni k l=true):∀j m (_:j<m) (hm:m<l.length),l[j].1<l[m].1:=by
 have step:∀m (hm:m+1<l.length),l[m].1<l[m+1].1:=fun m hm=>by
  have:=GJ h hm;unfold aS at this;rw[Ao hm,Nat.add_sub_cancel,Ao (show m<l.length by omega)]at this;simp only[Qf,Bool.not_eq_true',Bool.and_eq_false_iff,decide_eq_false_iff_not]at this;rcases this.1.2 with h2|h2
  .omega
  .omega
 intro j m;induction m with
 |zero=>intro hj;omega
 |succ m ih=>grind
theorem Qw {l:List WL} (h:gO nc ni k l=true):∀a∈l,0<=a.1/\a.1<nc/\0<=a.2:=fun a ha=>by
 obtain⟨m,hm,rfl⟩:=List.mem_iff_getElem.1 ha;have:=GJ h hm;unfold aS at this;rw[Ao hm]at this;simp only[Qf]at this;have h1:=VW.1 this.1.1;have h2:=VW.1 this.2;omega
theorem zt (ny:∀r,(hd r).length=5) (hm:m<L.length) (hq:vs=Ct hd q):over vs (0+m*(5+1)) (L.flatMap (Ct hd))=some ((L.set m q).flatMap (Ct hd)):=by
 subst hq;have hl:∀p,(Ct hd p).length=6:=fun p=>by unfold Ct;rw[Qm,ny];rfl
 have e:L=L.take m++L[m]::L.drop (m+1):=by simp_all
 have e2:L.flatMap (Ct hd)=(L.take m).flatMap (Ct hd)++(Ct hd L[m]++(L.drop (m+1)).flatMap (Ct hd)):=by grind
 have e3:((L.take m).flatMap (Ct hd)).length=0+m*(5+1):=by rw[AR ny,List.length_take,Nat.min_eq_left (Nat.le_of_lt hm)];omega
 rw[e2,<-e3,Mq (by rw[hl,hl]),List.set_eq_take_append_cons_drop,if_pos hm,List.flatMap_append,List.flatMap_cons]
theorem stepW_1 {c:Cj} (h:(Y6 c k).op=1) (ha:(Y6 c k).a=(m:Nat)) (hm:m<l.length):Xh c ⟨k,l,pk⟩=if l[m].b=true\/l[m].a=true then .J 5 else match pk with
 | []=> .J 8
 |p::ps=>match Z3 (Y6 c k).b p with
  |none=> .J 5
  |some t=> .Y ⟨t.toNat,l.set m (Xy l[m] p l.length (g_ c.b p).toNat)++List.replicate (g_ c.b p).toNat C8.g,ps⟩:=by
 unfold Xh;dsimp only;rw[if_pos h,ha];simp only[Int.toNat_natCast,Ao hm];rfl
theorem stepW_2 {c:Cj} (h:(Y6 c k).op=2):Xh c ⟨k,l,pk⟩=match pk with
 | []=> .J 8
 |p::ps=>if X1 p 0 ((Y6 c k).d.length-1:Int)=true then .Y ⟨((Y6 c k).d.getD p.toNat 0).toNat,l,ps⟩else .J 5:=by
 unfold Xh;dsimp only;rw[if_neg (by omega),if_pos h];cases pk<;>rfl
theorem stepW_3 {c:Cj} (h:(Y6 c k).op=3):Xh c ⟨k,l,pk⟩= .J 5:=by grind [Xh,Y6]
theorem stepW_4 {c:Cj} (h:(Y6 c k).op=4):Xh c ⟨k,l,pk⟩= .Y ⟨k+1,l++[⟨true,true,false,0,0,[]⟩],pk⟩:=by grind [Xh,Y6]
theorem stepW_5 {c:Cj} (h:(Y6 c k).op=5):Xh c ⟨k,l,pk⟩= .Y ⟨k+1,l++[⟨false,true,false,(Y6 c k).c,(Y6 c k).n,(Y6 c k).args⟩],pk⟩:=by grind [Xh,Y6]
theorem stepW_6 {c:Cj} (h:(Y6 c k).op=6):Xh c ⟨k,l,pk⟩=match pk with
 | []=> .O
 |_::_=> .J 8:=by
 unfold Xh;dsimp only;rw[if_neg (by omega),if_neg (by omega),if_neg (by omega),if_neg (by omega),if_neg (by omega)];cases pk<;>rfl
def lk (c:Cj):jN->AV->Prop
 | .J e,v=>v= .Y [.Ca,.int .i64 0,.int .i64 e]
 | .O t,v=>∃V L,eo V t.b L/\v= .Y [V,.int .i64 (Y6 c t.a).a,.int .i64 0]
section
variable {s : St} {c : Cj} {Cc : List Int}
theorem Bu {l:Sl} {st:St} (h6:Am.d_ 6 l=some .Ca) (h7:Am.d_ 7 l=some (.int .i64 0)) (h8:Am.d_ 8 l=some (.int .i64 e)) (hl:st.d=[]):∃vs,CK (EK W1) st l (Tryz.f44).results.toList=some vs/\∃cr,k9 (EK W1) 44 s (Zi vs) st=some cr/\match cr with
 | .J v=>lk c (.J e) v/\s=s
 | .O v s'=>lk c (.J e) v/\s'=s
 | .Y _ _=>False:=
 ⟨[.Ca,.int .i64 0,.int .i64 e],Ac h6 (Ac h7 (Ac h8 rfl)),.J (.Y [.Ca,.int .i64 0,.int .i64 e]),Fy (ks:=[]) (by kernel_rfl) hl rfl (fun b hb=>by cases hb) rfl,rfl,rfl⟩
theorem RF {f:Nat} {res:jN} (hc:ZT c) (jF:f<c.c.length) (hS:oN c S) (pX:Cc.length<=4000) (aA:bh c (bO c f Cc) res):VX (EK W1) 44 [.O (CJ c),.int .i64 (f:Nat),Cq CN 1 Cc] s (fun v s'=>lk c res v/\s'=s) fun _ _=>False:=by
 have WO:=I2 (Cc:=Cc) hc hS jF;refine Ar U ?_;have hf:=hc.a;have XM:=hf.g;have hlen:=hc.J;have uF:f<c.d.length:=by omega
 have uf:=Af AD uF;have hst0:=hc.u uF;obtain⟨tZ,sx⟩:∃tZ:Nat,c.d[f]=tZ:=⟨c.d[f].toNat,by omega⟩
 rw[sx]at uf;have q7:=Af Av jF;have uC:=hc.B _ (Ql jF);obtain⟨ar,eM⟩:∃ar:Nat,c.c[f].2=ar:=⟨c.c[f].2.toNat,by omega⟩
 unfold Ok at q7;rw[eM]at q7 uC;obtain⟨sA,XP⟩:∃x,x=s.u.g (.J (CJ c) 28 false):=⟨_,rfl⟩
 have nA:sA.a=s.a+1:=by rw[XP];rfl
 have cA:CL s.u sA (fun _=>False):=by rw[XP];exact CL.z
 have gA:sA.b.g s.a=some (.J (CJ c) 28 false):=by rw[XP];exact Ax
 have bA:sA.c=s.a:=cA.a;have hlA:sA.d=[]:=by rw[XP];rfl
 refine Es<|Lo (BR U U U) U<|Lw U ?_;show Cu _ _ _ _ (s.u.g (.J (CJ c) 28 false)) _;rw[<-XP];clear XP;have hsw:bO c f Cc=⟨tZ,List.replicate ar C8.g,Cc⟩:=by
  unfold bO g_;rw[Ao uF,sx,Int.toNat_natCast,Int.toNat_natCast,Ao jF,eM];rfl
 rw[hsw]at aA WO;refine B0 (DG (fun x:AV×St=>([(9,x.1),(3,.J s.a 0),(2,Cq CN 1 Cc),(1,.int .i64 (f:Nat))],x.2)) (fun x=>CL sA x.2 (fun _=>False)/\mJ x.2 x.1 (List.replicate ar (C8.g,.Ca))/\∀b,CB b x.1=true->sA.a<=b) ?_ ?_)
 .by_cases h0:ar=0
  .subst h0;refine Sr<|Lv 2 U<|Lo (kl U gA U) U<|qm U<|Lq (kv U q7) U<|Lv 2 U<|Lq (Dn U rb Kr SR ri U U U) U<|Lw U ?_;exact⟨rfl,(.Ca,sA),⟨CL.A,⟨.inl (a_.nil _ _ _),fun p hp=>by cases hp⟩,fun b hb=>by cases hb⟩,rfl,Ab (by repeat' constructor)⟩
  .refine Sr ?_;refine Lv 2 U<|Lo (kl U gA U) U<|qm U<|Lq (kv U q7) U<|Lv 2 U<|Lo (D8 U rb Kr SR ri U U U h0 (A3 (by omega) (by decide))) U ?_;refine CA.named fun sM jk=>?_;have cM:CL sA sM (fun _=>False):=by rw[jk];exact CL.z
   have gM:sM.b.g sA.a=some (.J ((List.replicate ar (C8.g,AV.Ca)).flatMap (Ct jO)) 98 false):=by
    rw[jk,<-E1 (x:=(C8.g,.Ca)) rfl];exact Ax
   have nM:sM.a=sA.a+1:=by rw[jk];rfl
   clear jk;refine Lw U ?_;exact⟨rfl,(.Z sA.a 0 ar 6 (some ar),sM),⟨cM,⟨.inr ⟨sA.a,by rw[List.length_replicate],by show sA.a<sM.a;omega,gM,AR (fun _=>rfl) _,by rw[List.length_replicate];exact h0⟩,fun p hp=>by rw[List.eq_of_mem_replicate hp];exact⟨.inr (a_.nil _ _ _),fun _=>a_.nil _ _ _⟩⟩,fun b hb=>by have:=Qb (show Nat.beq sA.a b=true from hb);omega⟩,rfl,Ab (by repeat' constructor)⟩
 rintro⟨v1,s1⟩ ⟨c1,r1,o1⟩;dsimp only at c1 r1 o1|-;have g1:=(c1.b s.a (by omega) id).trans gA;have lA:sA.d=[]:=hlA;have CU:∀ {st:St},CL sA st (fun _=>False)->st.d=[]:=fun h=>List.eq_nil_iff_forall_not_mem.2 fun y hy=>by
  rcases h.e y hy with h|⟨_,h⟩
  .rw[lA]at h;cases h
  .exact h
 refine Es<|Lv 1 U<|Lo (kl U g1 U) U<|qm U<|Lq (kv U uf) U<|Lw U<|Sb ?_;refine Ai (fun x:Z0×AV×List (C8×AV)×St=>([(10,.int .i64 (x.1.a:Nat)),(9,x.2.1),(3,.J s.a 0),(2,Cq CN 1 x.1.c)],x.2.2.2)) (fun x=>c.a.length-x.1.a)
  (fun x=>bh c x.1 res/\gQ c S x.1/\x.1.c.length<=Cc.length/\mJ x.2.2.2 x.2.1 x.2.2.1/\x.2.2.1.map (·.1)=x.1.b/\CL sA x.2.2.2 (fun _=>False)/\(∀b,CB b x.2.1=true->sA.a<=b)/\∀p∈x.2.2.1,∀b,CB b p.2=true->sA.a<=b)
  (⟨tZ,List.replicate ar C8.g,Cc⟩,v1,List.replicate ar (C8.g,.Ca),s1) ⟨aA,WO,Qj _,r1,List.map_replicate,c1,o1,fun p hp=>by rw[List.eq_of_mem_replicate hp];exact fun b hb=>by cases hb⟩ rfl (Ab (by repeat' constructor)) ?_
 rintro⟨⟨ZX,l,pk⟩,v,L,st⟩ ⟨CF,en,qn,hr,hm,ed,zp,zu⟩;dsimp only at CF en qn hr hm ed zp zu|-;have nI:=ed.d;have gI:=(ed.b s.a (by omega) id).trans gA;have bI:st.c=s.a:=ed.a.trans bA;have uH:st.c<=st.a:=by omega
 have fp:ZX<c.a.length:=en.b;have Z4:=Af A8 fp;have lj:Y6 c ZX=c.a[ZX]:=B2 fp;have W6:=hc.g fp;have ig:l.length<=60:=en.e;have hLl:L.length=l.length:=by rw[<-hm,Qn]
 have hins1:=hf.d;have XU:=Ql fp;generalize hx:c.a[ZX]=x at*;obtain⟨a1,a2,a3,a4,a5,a6,a7⟩:=AU (st:=st) (z:=[.int .i64 0,.int .i64 0,.Ca,.Ca,.int .i64 0,.int .i64 0,.Ca]) (cs:=Wj x) (T:=58);refine Sb<|Es<|Lv 1 U<|Lo (kl U gI U) U<|qm U<|Lq (kv U Z4) U<|Lv 1 U<|Lo (kz U) U<|Ln (kw U a1 U) U<|Ld ?_;refine Cu.sub (l':=[(11,.J st.a 0),(10,.int .i64 (ZX:Nat)),(9,v),(3,.J s.a 0),(2,Cq CN 1 pk)]) ?_ (Ab (by repeat' constructor));refine Az fun sB YP=>?_;obtain⟨c2,l2⟩:=AP (st:=st) (z:=[.int .i64 0,.int .i64 0,.Ca,.Ca,.int .i64 0,.int .i64 0,.Ca]) (cs:=Wj x) (T:=58) (own:=fun _=>False) uH;have c2:CL st sB (fun _=>False):=by rw[YP];exact c2
 have hB:∀d,d<st.a->sB.b.g d=st.b.g d:=fun d hd=>by rw[YP];exact a4 d hd
 have nB:sB.a=st.a+1:=by rw[YP];exact a7
 have gx:sB.b.g st.a=some (.J (Wj x) 58 false):=by rw[YP];exact a2
 have cB:CL sA sB (fun _=>False):=ed.g c2 (fun _ h=>h) (fun _ h=>h.elim) (by omega);have gB:=(hB s.a (by omega)).trans gI;have rB:=hr.CQ (s':=sB) (by omega) fun d hd _=>hB d hd;have bB:sB.c=s.a:=cB.a.trans bA;clear YP a1 a2 a3 a4 a5 a6 a7 l2 c2;have hpush:∀(r:C8) (a v5:AV) (s5:St),a_ s5 98 6 v5 (L.flatMap (Ct jO)++Ct jO (r,a)) (L.length+1)->(∀d,CB d v5=true->sB.a<=d)->CL sB s5 (fun d=>CB d v=true)->jj s5 r a->(∀d,CB d a=true->sA.a<=d)->
  mJ s5 v5 (L++[(r,a)])/\CL sA s5 (fun _=>False)/\(∀d,CB d v5=true->sA.a<=d)/\∀p∈L++[(r,a)],∀d,CB d p.2=true->sA.a<=d:=fun r a v5 s5 g5 o5 c5 m5 owa=>by
  refine⟨⟨.inl ?_,fun p hp=>?_⟩,cB.g c5 (fun _ h=>h) (fun d h=> .inr (zp d h)) (by omega),fun d hd=>by have:=o5 d hd;omega,fun p hp=>?_⟩
  .rw[List.flatMap_append,List.flatMap_cons,List.flatMap_nil,List.append_nil,Qm];exact g5
  .rcases List.mem_append.1 hp with h|h
   .refine(rB.args p h).CQ c5.d fun d cs hd hg=>c5.b d hd fun ho=>?_;obtain⟨pt,hT⟩:=rB.a.typ ho;rw[hg]at hT;simp at hT
   .rw[Qp.1 h];exact m5
  .rcases List.mem_append.1 hp with h|h
   .exact zu p h
   .rw[Qp.1 h];exact owa
 by_cases h1:x.op=1
 .obtain⟨op,xa,aE,zQ,jl,xn,eF⟩:=x;dsimp only at h1;subst h1;rw[Io rfl]at W6;simp only[Qf]at W6;obtain⟨_,_,hia,halt⟩:=W6;have ha:=VW.1 hia;obtain⟨m,rfl⟩:∃m:Nat,xa=m:=⟨xa.toNat,by omega⟩
  have h0:0<=oA S ZX:=by rw[show oA S ZX=(l.length:Nat)from en.a];exact Int.natCast_nonneg _
  have Xd:=hS.a ZX fp h0;rw[lj,show oA S ZX=(l.length:Nat)from en.a]at Xd;unfold XO at Xd;rw[if_pos (.inl rfl)]at Xd;have fq:=dT Xd;have sf:m<l.length:=by dsimp only at fq;omega
  have vh:m<L.length:=by omega
  obtain⟨b,cap,pt,rfl,eN,vg,ru,hre⟩:=rB.a.at vh;have ldr:Wq (EK W1) 98 sB (.J b (0+m*(5+1)))=some (.O [.bool L[m].1.b,.bool (L[m].1.a&& !L[m].1.c),.bool L[m].1.c,.int .i64 L[m].1.op,.int .i64 L[m].1.n,L[m].2]):=by
   rw[Bl ag_98 Kr vg (by rw[AR (fun _=>rfl)];omega),show 0+m*(5+1)=m*6 by omega,FZ (fun _=>rfl) vh];rfl
  unfold Wj at gx;dsimp only at gx;obtain⟨d1,d2,d3,d4,d5,d6,d7⟩:=AU (st:=sB) (z:=[.bool false,.bool false,.bool false,.int .i64 0,.int .i64 0,.Ca]) (cs:=[.bool L[m].1.b,.bool (L[m].1.a&& !L[m].1.c),.bool L[m].1.c,.int .i64 L[m].1.op,.int .i64 L[m].1.n,L[m].2]) (T:=98);obtain⟨c2,l2⟩:=AP (st:=sB) (z:=[.bool false,.bool false,.bool false,.int .i64 0,.int .i64 0,.Ca]) (cs:=[.bool L[m].1.b,.bool (L[m].1.a&& !L[m].1.c),.bool L[m].1.c,.int .i64 L[m].1.op,.int .i64 L[m].1.n,L[m].2]) (T:=98) (own:=fun _=>False) (by omega);refine Es<|Lv 1 U<|Lo (kl U gx U) U<|Ld<|Sb<|Ew U<|Tt U<|Es<|Lv 2 U<|Lo (kl U gx U) U ?_;refine Lq (kM U (by omega)) U ?_;refine Lo (AQ U U ldr) U<|Lo (kz U) U<|Ln (kw U d1 U) U<|Ld<|Sq ?_
  refine Cu.sub (l':=[(12,.J sB.a 0),(11,.J st.a 0),(10,.int .i64 (ZX:Nat)),(9,.Z b 0 L.length (5+1) cap),(3,.J s.a 0),(2,Cq CN 1 pk)]) ?_ (Ab (by repeat' constructor));refine Az fun sC dG=>?_;have c3:CL sB sC (fun _=>False):=by rw[dG];exact c2
  have hC:∀d,d<sB.a->sC.b.g d=sB.b.g d:=fun d hd=>by rw[dG];exact d4 d hd
  have nC:sC.a=sB.a+1:=by rw[dG];exact d7
  have gy:sC.b.g sB.a=some (.J [.bool L[m].1.b,.bool (L[m].1.a&& !L[m].1.c),.bool L[m].1.c,.int .i64 L[m].1.op,.int .i64 L[m].1.n,L[m].2] 98 false):=by rw[dG];exact d2
  have cC:CL sA sC (fun _=>False):=cB.g c3 (fun _ h=>h) (fun _ h=>h.elim) (by omega);have gC:=(hC s.a (by omega)).trans gB;have gxC:=(hC st.a (by omega)).trans gx;have rC:=rB.CQ (s':=sC) (by omega) fun d hd _=>hC d hd;have bC:sC.c=s.a:=cC.a.trans bA;have gbC:=(hC b eN).trans vg;clear dG d1 d2 d3 d4 d5 d6 d7 l2 c2 ldr;have hlm:L[m].1=l[m]:=by subst hm;rw[List.getElem_map]
  have Za:∀ {e:Int},Xh c ⟨ZX,l,pk⟩= .J e->res= .J e:=fun h=>CF.g h;have W7:=stepW_1 (pk:=pk) (show(Y6 c ZX).op=1 by rw[lj]) (show(Y6 c ZX).a=(m:Nat) by rw[lj]) sf;simp only[lj]at W7;have hfm:=(en.d m sf).b;rw[hlm]at gy;have mG:l[m].b=true\/l[m].a=true->res= .J 5:=fun h=>Za (by rw[W7,if_pos h]);focus
   refine Es<|Lv 1 U<|Lo (kl U gy U) U<|qm U ?_;refine Bb U (fun g2=>?_) (fun g2=>?_);refine Lw U<|Tt U<|Ew U ?_;rotate_left;refine Lv 1 U<|Lg U U (kl U gy U)<|Lv 2 U ?_;refine Bb U (fun g3=>?_) (fun g3=>?_);refine Lw U<|Tt U<|Ew U ?_;rotate_left;refine Lv 1 U<|Lg U U (kl U gy U)<|Lw U ?_;refine Cb U (fun g4=>?_) (fun g4=>?_);refine Ew U ?_;rotate_left;refine Sk<|Sq ?_;rotate_left
  .obtain rfl:=mG (.inl g2);refine Se ?_;exact AC ⟨.inl U,_,U,Bu U U U (CU cC)⟩
  .obtain rfl:=mG (.inr (by simp only[Qf]at g3;exact g3.1));refine Se ?_;exact AC ⟨.inl U,_,U,Bu U U U (CU cC)⟩
  .obtain rfl:=mG (.inr (hfm g4));refine Se ?_;exact AC ⟨.inl U,_,U,Bu U U U (CU cC)⟩
  have g5:l[m].a=false:=by
   cases h:l[m].a with
   |false=>rfl
   |true=>rw[h,g4]at g3;cases g3
  rw[if_neg (by rw[g2,g5];simp)]at W7;refine Cu.sub (l':=[(12,.J sB.a 0),(11,.J st.a 0),(10,.int .i64 (ZX:Nat)),(9,.Z b 0 L.length (5+1) cap),(3,.J s.a 0),(2,Cq CN 1 pk)]) ?_ (Ab (by repeat' constructor));cases pk with
  |nil=>
   have hl:=J5 (l:=[]);obtain rfl:=Za W7;refine Ew U<|Tt U<|Ew U<|Se ?_;exact AC ⟨.inl U,_,U,Bu U U U (CU cC)⟩
  |cons p ps=>
   have hlen:(p::ps).length=ps.length+1:=rfl;have hpk2:(p::ps).length<=Cc.length:=qn;have mK:=Af AD (l:=p::ps) (i:=0) (Nat.zero_lt_succ _);rw[List.getElem_cons_zero]at mK;have yX:=hf.a _ XU;dsimp only at yX;have hup:=alts_up halt;dsimp only at W7;refine Ew U<|Tf U<|Sk<|Ew U<|Sq<|Ew U<|Sb ?_;refine Ai (fun i:Nat=>([(14,.int .i64 (i:Nat)),(13,.int .i64 ((Z3 (aE.take i) p).getD (-1))),(12,.J sB.a 0),(11,.J st.a 0),(10,.int .i64 (ZX:Nat)),(9,.Z b 0 L.length (5+1) cap),(3,.J s.a 0),(2,Cq CN 1 (p::ps))],sC)) (fun i=>aE.length-i) (fun i=>i<=aE.length) 0 (Qo _) U (Ab (by repeat' constructor)) ?_;intro i hi;dsimp only at hi|-;by_cases C5:i<aE.length
   .have hpx:=Af BE C5;have jH:=SU hup C5 p;focus
     refine Sq<|Es<|Lv 2 U<|Lo (kl U gxC U) U<|Lw U ?_;refine Cd U (fun h6=>?_) (fun h6=>?_);refine Sk<|Sq<|Sb<|Ad (by kernel_rfl)<|Nv 1 U<|Nm U gxC U (.inl U) U<|Nv 1 U<|Nq (kv U hpx) U<|Nv 3 U<|Nq (kv (k:=0) U mK) U<|Nw U ?_;refine Cd U (fun h7=>?_) (fun h7=>?_);refine Sr<|Lv 1 U<|Lo (kl U gxC U) U<|qm U<|Lq (kv U hpx) U<|Lw U<|Sr<|qm U ?_;refine Lq (ka (b:=1) U (by omega)) U ?_;refine Lw U ?_;rotate_left;refine Sk<|Sr<|qm U ?_;refine Lq (ka (b:=1) U (by omega)) U ?_;refine Lw U ?_;rotate_left;exact absurd h6 (by omega)
    .rw[if_pos (show aE[i].1=p by assumption)]at jH;refine⟨i+1,C5,by show aE.length-(i+1)<aE.length-i;omega,U,U,?_⟩;rw[jH]
     (refine Am.Ab ?_;repeat (first|exact trivial|refine⟨rfl,?_⟩))
    .rw[if_neg (show¬aE[i].1=p by assumption)]at jH;refine⟨i+1,C5,by show aE.length-(i+1)<aE.length-i;omega,U,U,?_⟩;rw[jH]
     (refine Am.Ab ?_;repeat (first|exact trivial|refine⟨rfl,?_⟩))
   .obtain rfl:i=aE.length:=by omega
    rw[List.take_length];cases oG:Z3 aE p with
    |none=>
     rw[oG]at W7;obtain rfl:=Za W7;have mZ:((none:Option Int).getD (-1))= -1:=rfl;focus
      refine Sq<|Es<|Lv 2 U<|Lo (kl U gxC U) U<|Lw U ?_;refine Cd U (fun h6=>?_) (fun h6=>?_);exact absurd h6 (by omega);refine Sx<|A0 U<|Sq<|Ew U<|Tt U<|Ew U ?_;rotate_left
     refine Se ?_;exact AC ⟨.inl U,_,U,Bu U U U (CU cC)⟩
    |some t=>
     rw[oG]at W7;dsimp only at W7;have tm:0<=t/\0<=p/\p<c.b.length:=by
      obtain⟨i,hi,e⟩:=Hv oG;have:=Qw halt _ (Ql hi);rw[e]at this;exact⟨this.2.2,this.1,this.2.1⟩
     obtain⟨tn,rfl⟩:∃tn:Nat,t=tn:=⟨t.toNat,by omega⟩
     obtain⟨pn,rfl⟩:∃pn:Nat,p=pn:=⟨p.toNat,by omega⟩
     rw[show((some (tn:Int):Option Int).getD (-1))=(tn:Int)from rfl];focus
      refine Sq<|Es<|Lv 2 U<|Lo (kl U gxC U) U<|Lw U ?_;refine Cd U (fun h6=>?_) (fun h6=>?_);exact absurd h6 (by omega);refine Sx<|A0 U<|Sq<|Ew U<|Tf U<|Sk ?_;rotate_left
     refine Ad (by kernel_rfl)<|Nv 2 U<|Nm U gxC U (.inl U) U<|Nv 1 U<|Nq (kv (k:=0) U mK) U<|Nv 2 U ?_;refine Nq (kM U (by omega)) U ?_;refine B8 (by omega) U Kr U U gbC U U (zt (hd:=jO) (fun _=>rfl) (q:=(Xy l[m] pn l.length 0,.Ca)) vh (by
      show _=[AV.bool true,.bool (l[m].a&& !l[m].c),.bool l[m].c,.int .i64 3,.int .i64 (pn:Nat),.Ca]
      rw[g5,g4];rfl)) (AH (by kernel_rfl)) (by kernel_rfl) (.inl rfl) rfl rfl ?_
     refine Cz.named fun sD ix=>?_;replace ix:sD=bj sC b (some (.J ((L.set m (Xy l[m] pn l.length 0,.Ca)).flatMap (Ct jO)) 98 pt)):=ix;have gD:sD.b.g b=some (.J ((L.set m (Xy l[m] pn l.length 0,.Ca)).flatMap (Ct jO)) 98 pt):=by rw[ix];exact VY.trans (if_pos rfl)
     have zi:sA.a<=b:=zp b (Nat.beq_refl b);have cD:CL sA sD (fun _=>False):=by rw[ix];exact cC.g De (fun _ h=>h) (fun d h=> .inr (by omega)) (by omega)
     have oD:∀d,d≠b->sD.b.g d=sC.b.g d:=fun d hd=>by rw[ix];exact VY.trans (if_neg hd)
     have nD:sD.a=sC.a:=by rw[ix];rfl
     clear ix;have tne:∀ {d:Nat} {cs:List AV} {T:TypeId} {q:Bool},sC.b.g d=some (.J cs T q)->T≠98->d≠b:=fun hd hT e=>by
      subst e;rw[gbC]at hd;simp only[Option.some.injEq,CG.J.injEq]at hd;exact hT hd.2.1.symm
     have gxD:=(oD st.a (tne gxC (by decide))).trans gxC;have gcD:=(oD s.a (tne gC (by decide))).trans gC;have hpn:pn<c.b.length:=by omega
     have uh:=Af Av hpn;have harp:=hc.z _ (Ql hpn);obtain⟨ap,hap⟩:∃ap:Nat,c.b[pn].2=ap:=⟨c.b[pn].2.toNat,by omega⟩
     have sU:(g_ c.b (pn:Int)).toNat=ap:=by unfold g_;rw[Int.toNat_natCast,Ao hpn,hap];rfl
     unfold Ok at uh;rw[hap]at uh harp;refine Cz.done<|Sq<|Ew U<|Sb ?_;refine Ai (fun x:Nat×AV×AV×St=>([(15,.int .i64 (x.1:Nat)),(13,.int .i64 (tn:Nat)),(11,.J st.a 0),(9,x.2.2.1),(3,.J s.a 0),(2,Cq CN 1 ((pn:Int)::ps))],x.2.2.2)) (fun x=>ap-x.1)
      (fun x=>x.1<=ap/\iq x.2.2.2 98 6 x.2.2.1 ((L.set m (Xy l[m] pn l.length x.1,x.2.1)++List.replicate x.1 (C8.g,AV.Ca)).flatMap (Ct jO)) (L.length+x.1)/\a_ x.2.2.2 3 1 x.2.1 (((List.range x.1).map fun j=>((l.length+j:Nat):Int)).flatMap CN) x.1/\CL sA x.2.2.2 (fun _=>False)/\
       (∀d,d<sD.a->(∀cs q,sD.b.g d≠some (.J cs 98 q))->x.2.2.2.b.g d=sD.b.g d)/\sD.a<=x.2.2.2.a/\(∀d,CB d x.2.2.1=true->sA.a<=d)/\∀d,CB d x.2.1=true->sD.a<=d)
      (0,.Ca,.Z b 0 L.length (5+1) cap,sD) ⟨Qo _,?_,a_.nil _ _ _,cD,fun _ _ _=>rfl,Qj _,zp,fun d h=>by cases h⟩ rfl (Ab (by repeat' constructor)) ?_
     .show iq sD _ _ _ ((L.set m _++[]).flatMap _) _;rw[List.append_nil];exact hre sD _ (by omega) gD (by rw[AR (fun _=>rfl),AR (fun _=>rfl),List.length_set])
     rintro⟨i,a,v,s2⟩ ⟨hi,hrv,gra,cI,oI,nI2,ov,owa⟩;dsimp only at hi hrv gra cI oI nI2 ov owa|-;have tnd:∀ {d:Nat} {cs:List AV} {T:TypeId} {q:Bool},sD.b.g d=some (.J cs T q)->T≠98->∀ur q2,sD.b.g d≠some (.J ur 98 q2):=fun hd hT ur q2 e=>by
      rw[hd]at e;simp only[Option.some.injEq,CG.J.injEq]at e;exact hT e.2.1
     have gxI:=(oI st.a (by omega) (tnd gxD (by decide))).trans gxD;have gcI:=(oI s.a (by omega) (tnd gcD (by decide))).trans gcD;by_cases C5:i<ap
     .have xw:m<L.length+i:=by omega
      obtain⟨b2,cap2,pt2,rfl,hbn2,hbg2,hix2,hre2⟩:=hrv.at xw;have hlr:aQ (.Z b2 0 (L.length+i) (5+1) cap2)=some (.int .i64 ((L.length+i:Nat):Int)):=rfl;have hmI:m<(L.set m (Xy l[m] pn l.length i,a)++List.replicate i (C8.g,AV.Ca)).length:=by rw[Qm,List.length_set];omega
      have eI:(L.set m (Xy l[m] pn l.length i,a)++List.replicate i (C8.g,AV.Ca))[m]=(Xy l[m] pn l.length i,a):=by
       rw[List.getElem_append_left (by rw[List.length_set];exact vh),List.getElem_set_self]
      have ld5:Wq (EK W1) 26 s2 (.J b2 (0+m*(5+1)+5))=some a:=AA OE Iy hbg2 (by rw[show 0+m*(5+1)+5=m*6+5 by omega,F8 (fun _=>rfl) hmI (by decide),eI];rfl);have hoa:CB b2 a=false:=by
       cases h:CB b2 a with
       |false=>rfl
       |true=>exact absurd h (Fp gra hbg2 (by decide))
      have bI2:s2.c=s.a:=cI.a.trans bA;have gxk:=fun(_:True)=>gxI;clear gxI;focus
       refine Sq<|Ad (by kernel_rfl)<|Nv 3 U<|Nm U gcI U (.inl U) U<|Nv 1 U<|Nq (kv (k:=0) U mK) U<|Nv 1 U<|Nq (kv U uh) U<|Nw U ?_;refine Cd U (fun h7=>?_) (fun h7=>?_);refine Sk<|Sq<|Sb<|Ad (by kernel_rfl)<|Nv 2 U ?_;rotate_left;exact absurd h7 (by omega)
      have gxI:=gxk trivial;clear gxk;refine Dl U LJ D9 U gxI U (PS _) U U (.inl U) U U<|Nv 2 U<|Nm U gxI U (.inl U) U ?_;refine Nq (kM U (by omega)) U ?_;refine Nv 1 U<|B9 U U ld5 U (.inl U) U U<|Nv 2 U<|AI U I1 D9 qZ U U U (.inl U) U U ?_;have hox:CB st.a a=false:=by
       cases h:CB st.a a with
       |false=>rfl
       |true=>exact absurd (owa _ h) (by omega)
      refine SW (new:=[.int .i64 ((L.length+i:Nat):Int)]) gra (by omega) U (by decide) (A3 (by omega) (by decide)) (A3 (by omega) (by decide)) U U U U I1 D9 u4 qZ (by kernel_rfl) (by kernel_rfl) U U (J6 (by kernel_rfl)) (fun e he=>by rw[Qp.1 he];exact .inr hox) (by kernel_rfl) (.inl U) U U fun a2 s3 dA g2 o2 c3 l3 Y8=>?_;have g2b:=(c3.b b2 hbn2 (by rw[hoa];exact fun h=>by cases h)).trans hbg2;have n3:=c3.d;have fU:a2.g=[a2]/\a2.u=false:=by rcases g2 with⟨rfl,_⟩|⟨_,rfl,_⟩<;>exact⟨rfl,rfl⟩
      have e5:(Ct jO ((L.set m (Xy l[m] pn l.length i,a)++List.replicate i (C8.g,AV.Ca))[m]'hmI)).set 5 a2=Ct jO (Xy l[m] pn l.length (i+1),a2):=by rw[eI];rfl
      refine Nq (kM U (by omega)) U ?_;refine Nv 1 U ?_;refine B8 (by omega) U Iy U U g2b (by rw[fU.1];rfl) fU.2 (by rw[fU.1];exact GL (fun _=>rfl) 5 hmI (by decide) e5) (Y8 b2 hbn2 hoa _ (AH (by kernel_rfl))) (by kernel_rfl) (.inl U) U U ?_;rw[List.set_append_left _ _ (by rw[List.length_set];exact vh),List.set_set];refine Cz.named fun s4 hs4=>?_;replace hs4:s4=bj s3 b2 (some (.J ((L.set m (Xy l[m] pn l.length (i+1),a2)++List.replicate i (C8.g,AV.Ca)).flatMap (Ct jO)) 98 pt2)):=hs4;have g4:s4.b.g b2=some (.J ((L.set m (Xy l[m] pn l.length (i+1),a2)++List.replicate i (C8.g,AV.Ca)).flatMap (Ct jO)) 98 pt2):=by rw[hs4];exact VY.trans (if_pos rfl)
      have o4:∀d,d≠b2->s4.b.g d=s3.b.g d:=fun d hd=>by rw[hs4];exact VY.trans (if_neg hd)
      have n4:s4.a=s3.a:=by rw[hs4];rfl
      have dD:sA.a<=b2:=ov b2 (Nat.beq_refl b2);have c4:CL sA s4 (fun _=>False):=by
       rw[hs4];exact(cI.g c3 (fun _ h=>h) (fun d h=> .inr (by have:=owa d h;omega)) (by omega)).g De (fun _ h=>h) (fun d h=> .inr (by omega)) (by omega)
      have hbsl:b2<sD.a->∃cs q,sD.b.g b2=some (.J cs 98 q):=fun h=>Classical.byContradiction fun hn=>by
       have e:=oI b2 h fun cs q hq=>hn ⟨cs,q,hq⟩;rw[hbg2]at e;exact hn ⟨_,_,e.symm⟩
      have oI4:∀d,d<sD.a->(∀cs q,sD.b.g d≠some (.J cs 98 q))->s4.b.g d=sD.b.g d:=fun d hd hn=>by
       have Yh:d≠b2:=fun e=>by
        obtain⟨cs,q,hq⟩:=hbsl (by omega);exact hn cs q (by rw[e];exact hq)
       exact(o4 d Yh).trans ((c3.b d (by omega) fun h=>by have:=owa d h;omega).trans (oI d hd hn))
      have r4:iq s4 98 6 (.Z b2 0 (L.length+i) (5+1) cap2) ((L.set m (Xy l[m] pn l.length (i+1),a2)++List.replicate i (C8.g,AV.Ca)).flatMap (Ct jO)) (L.length+i):=
       hre2 s4 _ (by omega) g4 (by rw[AR (fun _=>rfl),AR (fun _=>rfl),Qm,Qm,List.length_set,List.length_set])
      have gr4:a_ s4 3 1 a2 (((List.range (i+1)).map fun j=>((l.length+j:Nat):Int)).flatMap CN) (i+1):=by
       rw[List.range_succ,List.map_append,List.flatMap_append,<-hLl];rw[<-hLl]at g2;exact g2.CQ (Nat.le_of_eq n4.symm) fun d hd=>o4 d fun e=>by have:=o2 d hd;omega
      clear hs4;have b4:s4.c=s.a:=c4.a.trans bA;refine Cz.done<|Sr<|Lv 2 U<|Lo (AX U rb Kr ri U U U) U ?_;refine Ia (new:=Ct jO (C8.g,.Ca)) r4 U (by decide) (A3 (by omega) (by decide)) (A3 (by omega) (by decide)) U U U U rb Kr SR ri (by kernel_rfl) (by kernel_rfl) U U U U U fun v5 s5 g5' o5 c5 l5=>?_;refine Lw U<|Sr<|qm U ?_;refine Lq (ka (b:=1) U (by omega)) U ?_;refine Lw U ?_;have n5:=c5.d;refine⟨(i+1,a2,v5,s5),⟨C5,?_,gr4.CQ n5 fun d hd=>c5.b d (gr4.own hd) fun h=>?_,c4.g c5 (fun _ h=>h) (fun d h=> .inr (ov d h)) (by omega),fun d hd hn=>(c5.b d (by show d<s4.a;have hd:d<sD.a:=hd;omega) fun h=>?_).trans (oI4 d hd hn),by show sD.a<=s5.a;omega,fun d h=>by have:=o5 d h;omega,fun d h=>by have:=o2 d h;omega⟩,by show ap-(i+1)<ap-i;omega,rfl,rfl,Ab (by repeat' constructor)⟩
      .refine .inl ?_;show a_ s5 98 6 v5 ((L.set m (Xy l[m] pn l.length (i+1),a2)++List.replicate (i+1) (C8.g,AV.Ca)).flatMap (Ct jO)) (L.length+(i+1));rw[List.replicate_succ',<-List.append_assoc,List.flatMap_append,List.flatMap_cons,List.flatMap_nil,List.append_nil];exact g5'
      .have e:b2=d:=Qb h;subst e;exact Fp gr4 g4 (by decide) hd
      .have e:b2=d:=Qb h;subst e;obtain⟨cs,q,hq⟩:=hbsl hd;exact hn cs q hq
     .obtain rfl:i=ap:=by omega
      focus
       refine Sq<|Ad (by kernel_rfl)<|Nv 3 U<|Nm U gcI U (.inl U) U<|Nv 1 U<|Nq (kv (k:=0) U mK) U<|Nv 1 U<|Nq (kv U uh) U<|Nw U ?_;refine Cd U (fun h7=>?_) (fun h7=>?_);exact absurd h7 (by omega);refine Sx<|A0 U<|AK (by kernel_rfl)<|Nv 2 U ?_;rotate_left
      refine Cz.q (zr U I1 D9 U U) U U U<|Nw U ?_;rw[sU,Int.toNat_natCast]at W7;obtain⟨q1,q2⟩:=EJ hc hS en W7;have oab:∀p∈L,∀d,CB d p.2=true->d<sD.a/\∃cs,sD.b.g d=some (.J cs 3 true):=fun p hp d hd=>by
       rcases(rC.args p hp).1 with h|h
       .rw[h]at hd;cases hd
       .have h2:=h.own hd;refine⟨by omega,?_⟩;rcases h with⟨h,_⟩|⟨b',h,_,hg,_⟩
        .rw[h]at hd;cases hd
        .rw[h]at hd;obtain rfl:=Qb (show Nat.beq b' d=true from hd);exact⟨_,(oD b' (tne hg (by decide))).trans hg⟩
      have hLx:∀p∈L.set m (Xy l[m] pn l.length i,a)++List.replicate i (C8.g,AV.Ca),p=(Xy l[m] pn l.length i,a)\/p∈L\/p=(C8.g,AV.Ca):=fun p hp=>by
       rcases List.mem_append.1 hp with h|h
       .rcases List.mem_or_eq_of_mem_set h with h|h
        .exact .inr (.inl h)
        .exact .inl h
       .exact .inr (.inr (List.eq_of_mem_replicate h))
      refine⟨(⟨tn,l.set m (Xy l[m] pn l.length i)++List.replicate i C8.g,ps⟩,v,L.set m (Xy l[m] pn l.length i,a)++List.replicate i (C8.g,AV.Ca),s2),⟨CF.u W7,q2,by show ps.length<=_;omega,⟨?_,fun p hp=>?_⟩,?_,cI,ov,fun p hp d hd=>?_⟩,?_,rfl,rfl,Ab (by repeat' constructor)⟩
      .rw[Qm,List.length_set,List.length_replicate];exact hrv
      .rcases hLx p hp with rfl|h|rfl
       .have hg:a_ s2 3 1 a ((Xy l[m] pn l.length i).args.flatMap CN) (Xy l[m] pn l.length i).args.length:=by
         show a_ s2 3 1 a (((List.range i).map fun j=>((l.length+j:Nat):Int)).flatMap CN) ((List.range i).map _).length;rw[Qn,List.length_range];exact gra
        exact⟨.inr hg,fun _=>hg⟩
       .refine(rC.args p h).CQ (s':=s2) (by omega) fun d cs hd hg=>?_;have iu:=(oD d (tne hg (by decide))).trans hg;exact(oI d (by omega) (tnd iu (by decide))).trans (iu.trans hg.symm)
       .exact⟨.inr (a_.nil _ _ _),fun _=>a_.nil _ _ _⟩
      .rw[List.map_append,List.map_set,hm,List.map_replicate]
      .rcases hLx p hp with rfl|h|rfl
       .have:=owa d hd;omega
       .exact zu p h d hd
       .cases hd
      .have:ZX<tn:=q1;show c.a.length-tn<c.a.length-ZX;omega
 by_cases h2:x.op=2
 .obtain⟨op,xa,aE,zQ,jl,xn,eF⟩:=x;dsimp only at h2;subst h2;rw[Oc rfl]at W6;simp only[Qf]at W6;obtain⟨_,_,_,htar⟩:=W6;have htos:=hf.f _ XU;dsimp only at htos htar;unfold Wj at gx;dsimp only at gx;have W7:=stepW_2 (l:=l) (pk:=pk) (show(Y6 c ZX).op=2 by rw[lj]);simp only[lj]at W7;have hpk2:pk.length<=Cc.length:=qn;cases pk with
  |nil=>
   have hl:=J5 (l:=[]);obtain rfl:=CF.g W7;refine Es<|Lv 1 U<|Lo (kl U gx U) U<|Ld<|Sb<|Ew U<|Tf U<|Ew U<|Tt U<|Sq<|Ew U<|Tt U<|Ew U<|Se ?_;exact AC ⟨.inl U,_,U,Bu U U U (CU cB)⟩
  |cons p ps=>
   dsimp only at W7;have hlen:(p::ps).length=ps.length+1:=rfl;have mK:=Af AD (l:=p::ps) (i:=0) (Nat.zero_lt_succ _);rw[List.getElem_cons_zero]at mK;cases Yi:X1 p 0 (zQ.length-1:Int)with
   |false=>
    rw[if_neg (by rw[Yi];simp)]at W7;obtain rfl:=CF.g W7;focus
     refine Es<|Lv 1 U<|Lo (kl U gx U) U<|Ld<|Sb<|Ew U<|Tf U<|Ew U<|Tt U<|Sq<|Ew U<|Tf U<|Sk<|Sq<|Ad (by kernel_rfl)<|Nv 1 U ?_;refine Nq (kv (k:=0) U mK) U<|Nv 2 U<|Nm U gx U (.inl U) U<|Nv 1 U<|Nq (ks U (by omega)) U ?_;refine Na (kC U (Du)) (.inl U) U<|Nw U ?_;refine Cn U (fun h2=>?_) (fun h2=>?_);refine Ew U ?_;rotate_left;refine Sk<|AK (by kernel_rfl)<|Nv 1 U<|Nm U gx U (.inl U) U<|Nv 1 U<|Nq (kv (k:=0) U mK) U<|Nv 1 U ?_;rotate_left
    .refine Se ?_;exact AC ⟨.inl U,_,U,Bu U U U (CU cB)⟩
    .rw[Yi]at h2;cases h2
   |true=>
    rw[if_pos Yi]at W7;have Xa:=VW.1 Yi;obtain⟨pn,rfl⟩:∃pn:Nat,p=pn:=⟨p.toNat,by omega⟩
    have Y1:pn<zQ.length:=by omega
    have jV:=Af AD Y1;have htp:0<=zQ[pn]:=by
     have h:=htar;unfold Yv at h;rw[Qf]at h;have h3:=GJ h.1 Y1;unfold bM at h3;rw[Ao Y1]at h3;have:=VW.1 h3;omega
    obtain⟨tn,htn⟩:∃tn:Nat,zQ[pn]=tn:=⟨zQ[pn].toNat,by omega⟩
    rw[htn]at jV;rw[Int.toNat_natCast,Ao Y1,htn,Int.toNat_natCast]at W7;obtain⟨q1,q2⟩:=EJ hc hS en W7;focus
     refine Es<|Lv 1 U<|Lo (kl U gx U) U<|Ld<|Sb<|Ew U<|Tf U<|Ew U<|Tt U<|Sq<|Ew U<|Tf U<|Sk<|Sq<|Ad (by kernel_rfl)<|Nv 1 U ?_;refine Nq (kv (k:=0) U mK) U<|Nv 2 U<|Nm U gx U (.inl U) U<|Nv 1 U<|Nq (Bj (b:=1) U ey U U (by omega)) U ?_;refine Na (kC U (Du)) (.inl U) U<|Nw U ?_;refine Cn U (fun h2=>?_) (fun h2=>?_);refine Ew U ?_;rotate_left;refine Sk<|AK (by kernel_rfl)<|Nv 1 U<|Nm U gx U (.inl U) U<|Nv 1 U<|Nq (kv (k:=0) U mK) U<|Nv 1 U<|Nq (kv U jV) U<|Nv 2 U ?_;rotate_left
    .rw[VW.2 ⟨by omega,by omega⟩]at h2;cases h2
    refine Cz.q (zr U I1 D9 U U) U U U<|Nw U ?_;refine⟨(⟨tn,l,ps⟩,v,L,sB),⟨CF.u W7,q2,by show ps.length<=_;omega,rB,hm,cB,zp,zu⟩,?_,U,U,Ab (by repeat' constructor)⟩;have:ZX<tn:=q1;show c.a.length-tn<c.a.length-ZX;omega
 by_cases h3:x.op=3
 .obtain⟨op,xa,aE,zQ,jl,xn,eF⟩:=x;dsimp only at h3;subst h3;unfold Wj at gx;dsimp only at gx;have W7:=stepW_3 (l:=l) (pk:=pk) (show(Y6 c ZX).op=3 by rw[lj]);obtain rfl:=CF.g W7;refine Es<|Lv 1 U<|Lo (kl U gx U) U<|Ld<|Sb<|Ew U<|Tf U<|Ew U<|Tf U<|Ew U<|Tt U<|Ew U<|Se ?_;exact AC ⟨.inl U,_,U,Bu U U U (CU cB)⟩
 by_cases h4:x.op=4
 .obtain⟨op,xa,aE,zQ,jl,xn,eF⟩:=x;dsimp only at h4;subst h4;unfold Wj at gx;dsimp only at gx;have W7:=stepW_4 (l:=l) (pk:=pk) (show(Y6 c ZX).op=4 by rw[lj]);obtain⟨q1,q2⟩:=EJ hc hS en W7;refine Es<|Lv 1 U<|Lo (kl U gx U) U<|Ld<|Sb<|Ew U<|Tf U<|Ew U<|Tf U<|Ew U<|Tf U<|Ew U<|Tt U<|Es<|Lv 2 U<|Lo (AX U rb Kr ri U U U) U ?_;refine Ia (new:=Ct jO (⟨true,true,false,0,0,[]⟩,.Ca)) rB.a U (by decide) (A3 (by omega) (by decide)) (A3 (by omega) (by decide)) U U U U rb Kr SR ri (by kernel_rfl) (by kernel_rfl) U U U U U fun v5 s5 g5' o5 c5 l5=>?_;obtain⟨p1,p2,p3,p4⟩:=hpush ⟨true,true,false,0,0,[]⟩ .Ca v5 s5 g5' o5 c5 ⟨.inr (a_.nil _ _ _),fun h=>by cases h⟩ (fun d hd=>by cases hd);refine Lw U<|Sr<|qm U ?_;refine Lq (ka (b:=1) U (by omega)) U ?_;refine Lw U ?_
  refine⟨(⟨ZX+1,l++[⟨true,true,false,0,0,[]⟩],pk⟩,v5,L++[(⟨true,true,false,0,0,[]⟩,.Ca)],s5),⟨CF.u W7,q2,qn,p1,by rw[List.map_append,hm];rfl,p2,p3,p4⟩,?_,U,U,Ab (by repeat' constructor)⟩;show c.a.length-(ZX+1)<c.a.length-ZX;omega
 by_cases h5:x.op=5
 .obtain⟨op,xa,aE,zQ,jl,xn,eF⟩:=x;dsimp only at h5;subst h5;unfold Wj at gx;dsimp only at gx;have W7:=stepW_5 (l:=l) (pk:=pk) (show(Y6 c ZX).op=5 by rw[lj]);simp only[lj]at W7;obtain⟨q1,q2⟩:=EJ hc hS en W7;refine Es<|Lv 1 U<|Lo (kl U gx U) U<|Ld<|Sb<|Ew U<|Tf U<|Ew U<|Tf U<|Ew U<|Tf U<|Ew U<|Tf U<|Ew U<|Tt U<|Es ?_;refine Lv 2 U<|Lo (kl U gx U) U<|Lv 1 U<|Lo (kl U gx U) U<|Lv 1 U<|Lo (kl U gx U) U<|Lv 1 U<|Lo (AX U rb Kr ri U U U) U ?_;refine Ia (new:=Ct jO (⟨false,true,false,jl,xn,eF⟩,Cq CN 1 eF)) rB.a U (by decide) (A3 (by omega) (by decide)) (A3 (by omega) (by decide)) U U U U rb Kr SR ri (by kernel_rfl) (by kernel_rfl) U U U U U fun v5 s5 g5' o5 c5 l5=>?_;obtain⟨p1,p2,p3,p4⟩:=hpush ⟨false,true,false,jl,xn,eF⟩ (Cq CN 1 eF) v5 s5 g5' o5 c5 ⟨.inl rfl,fun h=>by cases h⟩ (fun d hd=>by cases hd);refine Lw U<|Sr<|qm U ?_
  refine Lq (ka (b:=1) U (by omega)) U ?_;refine Lw U ?_;refine⟨(⟨ZX+1,l++[⟨false,true,false,jl,xn,eF⟩],pk⟩,v5,L++[(⟨false,true,false,jl,xn,eF⟩,Cq CN 1 eF)],s5),⟨CF.u W7,q2,qn,p1,by rw[List.map_append,hm];rfl,p2,p3,p4⟩,?_,U,U,Ab (by repeat' constructor)⟩;show c.a.length-(ZX+1)<c.a.length-ZX;omega
 have h6:x.op=6:=by
  by_cases h6:x.op=6
  .exact h6
  .rw[Ri (by omega)]at W6;cases W6
 obtain⟨op,xa,aE,zQ,jl,xn,eF⟩:=x;dsimp only at h6;subst h6;unfold Wj at gx;dsimp only at gx;have W7:=stepW_6 (l:=l) (pk:=pk) (show(Y6 c ZX).op=6 by rw[lj]);cases pk with
 |cons p ps=>
  dsimp only at W7;have hpk2:(p::ps).length<=Cc.length:=qn;have hlen:(p::ps).length=ps.length+1:=rfl;obtain rfl:=CF.g W7;focus
   refine Es<|Lv 1 U<|Lo (kl U gx U) U<|Ld<|Sb<|Ew U<|Tf U<|Ew U<|Tf U<|Ew U<|Tf U<|Ew U<|Tf U<|Ew U<|Tf U<|Sq ?_;refine Ew U ?_;refine Cd U (fun h2=>?_) (fun h2=>?_);refine Ew U ?_;rotate_left;exact absurd h2 (by omega)
  refine Se ?_;exact AC ⟨.inl U,_,U,Bu U U U (CU cB)⟩
 |nil=>
  obtain rfl:=CF.z W7;have hl:=J5 (l:=[]);refine Es<|Lv 1 U<|Lo (kl U gx U) U<|Ld<|Sb<|Ew U<|Tf U<|Ew U<|Tf U<|Ew U<|Tf U<|Ew U<|Tf U<|Ew U<|Tf U<|Sq ?_;refine Ew U<|Tf U<|Sk<|Ad (by kernel_rfl)<|Nv 2 U<|Nm U gx U (.inl U) U<|Nw U<|Se ?_;obtain⟨V,L2,bs,z1,z2,z3⟩:=Vc (m:=s.a) rB (fun b hb=>by have:=zp b hb;omega) (fun p hp b hb=>by have:=zu p hp b hb;omega);rw[hm]at z1;refine AC ⟨.inl U,_,rfl,[v,.int .i64 xa,.int .i64 0],Ac U (Ac U (Ac U U)),.J (.Y [V,.int .i64 xa,.int .i64 0]),Fy (ks:=bs) (by kernel_rfl) (CU cB) ?_ (fun b hb=>by rw[bB];exact z2 b hb) ?_,⟨V,L2,z1,by rw[show(⟨ZX,l,[]⟩:Z0).a=ZX from rfl,lj]⟩,rfl⟩
  .show((C9.many (C9 sB s.a 39) [v,.int .i64 xa,.int .i64 0] []).bind _)=_;have h1:C9.many (C9 sB s.a 39) [v,.int .i64 xa,.int .i64 0] []=some ([V,.int .i64 xa,.int .i64 0],bs):=by
    simp only[C9.many,show∀n q,C9 sB s.a 39 (.int .i64 n) q=some (.int .i64 n,q)from fun _ _=>rfl,z3,Qe]
   rw[h1];rfl
  .have hV:CD s.a 39 V=true:=by
    rw[z1.a];unfold bH;cases Nat.beq l.length 0<;>rfl
   show [V,AV.int .i64 xa,.int .i64 0].all (CD s.a 39)=true;rw[List.all_cons,hV];rfl
end
def bP (k:Nat):List (Nat×Nat)->List (AV×AV×Nat)
 | []=>[]
 |p::l=>(.int .i64 (p.1:Nat),.int .i64 (p.2:Nat),k)::bP (k+1) l
theorem Oz:∀(k:Nat) (l:List (Nat×Nat)) (p:Nat×Nat),bP k (l++[p])=bP k l++[(.int .i64 (p.1:Nat),.int .i64 (p.2:Nat),k+l.length)]
 |k,[],p=>rfl
 |k,a::l,p=>by
  show(AV.int .i64 (a.1:Nat),AV.int .i64 (a.2:Nat),k)::bP (k+1) (l++[p])=_;rw[Oz (k+1) l p];show _=(AV.int .i64 (a.1:Nat),AV.int .i64 (a.2:Nat),k)::(bP (k+1) l++[(.int .i64 (p.1:Nat),.int .i64 (p.2:Nat),k+(l.length+1))])
  rw[show k+1+l.length=k+(l.length+1) by omega]
theorem L7 (r:Nat):∀(k:Nat) (l:List (Nat×Nat)),∃q,Yo (.J (.int .i64)) (.int .i64 (r:Nat)) (bP k l)=some q
 |k,[]=>⟨_,rfl⟩
 |k,a::l=>by
  obtain⟨q,hq⟩:=L7 r (k+1) l;refine⟨bif decide ((r:Int)=(a.1:Nat))then some (.int .i64 (a.1:Nat),.int .i64 (a.2:Nat),k)else q,?_⟩;show(some (decide ((r:Int)=(a.1:Nat)))).bind (fun z=>(Yo (.J (.int .i64)) (.int .i64 (r:Nat)) (bP (k+1) l)).bind fun q=>some (bif z then _ else q))=_;rw[hq];rfl
theorem MB (r:Nat):∀(k:Nat) (l:List (Nat×Nat)),(∀p∈l,p.1≠r)->Yo (.J (.int .i64)) (.int .i64 (r:Nat)) (bP k l)=some none
 |k,[],_=>rfl
 |k,a::l,h=>by
  show(some (decide ((r:Int)=(a.1:Nat)))).bind _=_;have:=h a (Qh ..);rw[decide_eq_false (by omega),Qe];rw[MB r (k+1) l fun p hp=>h p (Qg _ hp)];rfl
theorem Oy (r:Nat):∀(k:Nat) (l:List (Nat×Nat)),(∃p∈l,p.1=r)->∃n j,(r,n)∈l/\Yo (.J (.int .i64)) (.int .i64 (r:Nat)) (bP k l)=some (some (.int .i64 (r:Nat),.int .i64 (n:Nat),j))
 |k,[],h=>by obtain⟨p,hp,_⟩:=h;cases hp
 |k,a::l,h=>by
  by_cases e:a.1=r
  .refine⟨a.2,k,by rw[<-e];exact Qh ..,?_⟩;show(some (decide ((r:Int)=(a.1:Nat)))).bind _=_;obtain⟨q,hq⟩:=L7 r (k+1) l;rw[decide_eq_true (by omega),Qe,e,hq];rfl
  .obtain⟨n,j,h1,h2⟩:=Oy r (k+1) l (by
    obtain⟨p,hp,e2⟩:=h;rcases Qk.1 hp with rfl|hp
    .exact absurd e2 e
    .exact⟨p,hp,e2⟩)
   refine⟨n,j,Qg _ h1,?_⟩;show(some (decide ((r:Int)=(a.1:Nat)))).bind _=_;rw[decide_eq_false (by omega),Qe,h2];rfl
def nQ (s:St) (mb:Nat) (M:List (Nat×Nat)):Prop:=s.b.g mb=some (.Y (bP 0 M) M.length)/\mb<s.a
theorem sz_no {s:St} (h:nQ s mb M) (hr:∀p∈M,p.1≠r):ck (.J (.int .i64)) s true (.int .i64 0) (.bW mb) (.int .i64 (r:Nat))=some (.Y [.int .i64 0,.bool false]):=by
 show((eS (s.b.g mb)).bind fun es=>(Yo _ _ es).bind fun r=>some (eX true (.int .i64 0) r))=_;rw[h.1];show(Yo _ _ (bP 0 M)).bind _=_;rw[MB r 0 M hr];rfl
theorem sz_yes {s:St} (h:nQ s mb M) (hr:∃p∈M,p.1=r):∃n,(r,n)∈M/\ck (.J (.int .i64)) s true (.int .i64 0) (.bW mb) (.int .i64 (r:Nat))=some (.Y [.int .i64 (n:Nat),.bool true]):=by
 obtain⟨n,j,h1,h2⟩:=Oy r 0 M hr;refine⟨n,h1,?_⟩;show((eS (s.b.g mb)).bind fun es=>(Yo _ _ es).bind fun r=>some (eX true (.int .i64 0) r))=_;rw[h.1];show(Yo _ _ (bP 0 M)).bind _=_;rw[h2];rfl
theorem sz_put {s:St} {n:Nat} (h:nQ s mb M) (hr:∀p∈M,p.1≠r):cm (.J (.int .i64)) s (.int .i64 (r:Nat)) (.int .i64 (n:Nat)) (.bW mb)=some (s.z mb (some (.Y (bP 0 (M++[(r,n)])) (M++[(r,n)]).length))):=by
 show cY (.J (.int .i64)) s mb (.int .i64 (r:Nat)) (.int .i64 (n:Nat)) (s.b.g mb)=_;rw[h.1];show(Yo _ _ (bP 0 M)).bind _=_;rw[MB r 0 M hr,Qe,Oz,Nat.zero_add,Qm];rfl
def bQ (n:Nat):Nat:=min 41 n
def uI (l:List C8) (M:List (Nat×Nat)):Prop:=∀p∈M,∃t,Is l t p.1/\p.2=bQ (We t)
theorem Pm (h:i<ts.length):WD (ts.take (i+1))=WD (ts.take i)+We ts[i]:=by
 have app:∀a b:List Zz,WD (a++b)=WD a+WD b:=fun a b=>by
  induction a with
  |nil=>rw[List.nil_append,WD,Nat.zero_add]
  |cons x a ih=>rw[List.cons_append,WD,WD,ih];omega
 rw[List.take_succ_eq_append_getElem h,app,WD,WD];rfl
theorem QJ {V:AV} {l:List C8} {L:List (C8×AV)} (WO:Yf l) (hV:eo V l L) (ig:l.length<=60):∀(n:Nat) (t:Zz),We t<=n->∀ {s:St} {mb r:Nat} {M:List (Nat×Nat)} (_:Is l t r) (_:nQ s mb M) (_:uI l M) {R RP:AV->St->Prop}
 (_:∀s' M',CL s s' (fun x=>x=mb)->nQ s' mb M'->uI l M'->(∀p∈M',p∈M\/∃u,Is l u p.1/\We u<=We t)->(s.c<=s.a->Ch s s')->R (.int .i64 (bQ (We t):Nat)) s'),
 VX (EK W1) 45 [V,.int .i64 (r:Nat),.bW mb] s R RP:=by
 intro n;induction n with
 |zero=>intro t ht;cases t<;>rw[We]at ht<;>omega
 |succ n ih=>
  intro t ht s mb r M hI hS hM R RP hR;refine LM (fn:=Tryz.f45) U (by kernel_rfl) (by kernel_rfl) U U U U ?_;have hSE:nQ s.u mb M:=hS;by_cases hr:∃p∈M,p.1=r
  .obtain⟨m,hm,bJ⟩:=sz_yes hSE hr;obtain⟨u,hu,e⟩:=hM _ hm;obtain rfl:=UG hu hI;dsimp only at e;subst e;have hR1:=hR s M CL.A hS hM (fun p hp=> .inl hp) fun _=>Ch.A;have jn:=hR (s.G s.u) M (CL.u CL.A) hS hM (fun p hp=> .inl hp) fun hb=>Ch.u Ch.A hb;refine Ew U<|Sq<|Es<|Lv 2 U<|Lo (Dm U OZ qZ nu U U bJ) U<|Lw U<|Ew U<|Tt U<|Ew U<|Se ?_;exact⟨.inl U,rfl,_,Ac U U,fun _=>hR1,jn⟩
  .have mR:∀p∈M,p.1≠r:=fun p hp e=>hr ⟨p,hp,e⟩;have bJ:=sz_no hSE mR;have ql:r<l.length:=by
    cases t with
    |O k=>rw[Is]at hI;exact hI.2.1
    |J o n ks=>rw[Is]at hI;exact hI.1
   obtain⟨ts,hIs,X2⟩:∃ts,oS l ts l[r].args/\We t=WD ts+1:=by
    cases t with
    |O k=>
     rw[Is]at hI;obtain⟨rfl,_,h0⟩:=hI;exact⟨[],by rw[(WO k ql).c h0,oS],U⟩
    |J o n ks=>
     rw[Is]at hI;exact⟨ks,hI.2.2.2.2,by rw[We]⟩
   have htl:=J7 hIs;have Y0:=Rg hIs;have hokr:=(WO r ql).d;obtain⟨a,cs,hka,ru⟩:=hV.u ql;have qy:=hka.len;rw[<-htl]at qy;refine Ew U<|Sq<|Es<|Lv 2 U<|Lo (Dm U OZ qZ nu U U bJ) U<|Lw U<|Ew U<|Tf U<|Sk<|Ew U<|Sq<|Ew U<|Sb ?_;refine Ai (fun x:Nat×St×List (Nat×Nat)=>([(10,.int .i64 (x.1:Nat)),(9,.int .i64 (bQ (WD (ts.take x.1)+1):Nat)),(2,.bW mb),(1,.int .i64 (r:Nat)),(0,V)],x.2.1)) (fun x=>ts.length-x.1)
    (fun x=>x.1<=ts.length/\CL s.u x.2.1 (fun d=>d=mb)/\Ch s.u x.2.1/\nQ x.2.1 mb x.2.2/\uI l x.2.2/\∀p∈x.2.2,p∈M\/∃u,Is l u p.1/\We u<We t)
    (0,s.u,M) ⟨Qo _,CL.A,Ch.A,hS,hM,fun p hp=> .inl hp⟩ rfl ?_ ?_
   .dsimp only;rw[List.take_zero,show WD []=0 by rw[WD]]
    (refine Am.Ab ?_;repeat (first|exact trivial|refine⟨rfl,?_⟩))
   rintro⟨i,st,M1⟩ ⟨hi,cI,lI,nO,hMI,hpI⟩;dsimp only at hi cI lI nO hMI hpI|-;by_cases C5:i<ts.length
   .have b7:i<l[r].args.length:=by omega
    obtain⟨hz,hIk⟩:=Y0 i C5 b7;obtain⟨ak,hak⟩:∃ak:Nat,l[r].args[i]=ak:=⟨l[r].args[i].toNat,by omega⟩
    rw[hak,Int.toNat_natCast]at hIk;obtain⟨ur,dE⟩:=hka.at b7;rw[hak]at dE;have hszi:We ts[i]<We t:=by
     have:=I3 (Ql C5);omega
    have htk:=Pm C5;focus
     refine Sq<|Es<|Lv 3 U<|Lq (kv U ru) U<|Lv 2 U<|Lq (kn U qy) U<|Lw U ?_;refine Cd U (fun h1=>?_) (fun h1=>?_);refine Sk<|Sq<|Sb<|Sr<|Lv 4 U<|Lq (kv U ru) U<|Lv 3 U<|Lq (kv U dE) U<|Lv 2 U ?_;rotate_left;exact absurd h1 (by omega)
    refine An U U (by kernel_rfl) U U U U (ih ts[i] (by omega) hIk nO hMI fun s2 M2 c2 h2 k2 p2 l2=>?_);have e1:bQ (WD (ts.take (i+1))+1)=min 41 (bQ (WD (ts.take i)+1)+bQ (We ts[i])):=by
     rw[htk];unfold bQ;omega
    have e2:bQ (WD (ts.take i)+1)<=41:=Nat.min_le_left _ _;have e3:bQ (We ts[i])<=41:=Nat.min_le_left _ _;generalize bQ (WD (ts.take i)+1)=x at*;generalize bQ (We ts[i])=y at*;have hK:(i+1,s2,M2).1<=ts.length/\CL s.u s2 (fun d=>d=mb)/\Ch s.u s2/\nQ s2 mb M2/\uI l M2/\∀p∈M2,p∈M\/∃u,Is l u p.1/\We u<We t:=⟨C5,cI.g c2 (fun _ h=>h) (fun _ h=> .inl h) (Qj _),lI.g (l2 (by rw[cI.a];exact cI.d)),h2,k2,fun p hp=>by
     rcases p2 p hp with h|⟨u,hu,hlt2⟩
     .exact hpI p h
     .exact .inr ⟨u,hu,by omega⟩⟩
    by_cases hxy:x+y<41
    .rw[Nat.min_eq_right (by omega)]at e1;refine Lq (ka U (by omega)) U ?_;refine Lq (X3.minR U U U U U (by omega)) U<|Lw U<|Sr<|qm U ?_;refine Lq (ka (b:=1) U (by omega)) U ?_;refine Lw U ?_;refine⟨(i+1,s2,M2),hK,by show ts.length-(i+1)<ts.length-i;omega,U,U,?_⟩;dsimp only;rw[e1]
     (refine Am.Ab ?_;repeat (first|exact trivial|refine⟨rfl,?_⟩))
    .rw[Nat.min_eq_left (by omega)]at e1;refine Lq (ka U (by omega)) U ?_;refine Lq (X3.minL U U U U U (by omega)) U<|Lw U<|Sr<|qm U ?_;refine Lq (ka (b:=1) U (by omega)) U ?_;refine Lw U ?_;refine⟨(i+1,s2,M2),hK,by show ts.length-(i+1)<ts.length-i;omega,U,U,?_⟩;dsimp only;rw[e1]
     (refine Am.Ab ?_;repeat (first|exact trivial|refine⟨rfl,?_⟩))
   .obtain rfl:i=ts.length:=by omega
    rw[List.take_length,<-X2];have Xo:∀p∈M1,p.1≠r:=fun p hp e=>by
     rcases hpI p hp with h|⟨u,hu,hlt2⟩
     .exact mR p h e
     .rw[e]at hu;rw[UG hu hI]at hlt2;exact absurd hlt2 (Nat.lt_irrefl _)
    have jV:=sz_put (n:=bQ (We t)) nO Xo;focus
     refine Sq<|Es<|Lv 3 U<|Lq (kv U ru) U<|Lv 2 U<|Lq (kn U qy) U<|Lw U ?_;refine Cd U (fun h1=>?_) (fun h1=>?_);exact absurd h1 (by omega);refine Sx<|A0 U<|Es<|Lv 3 U<|Ln (Ge (.inl U) OZ nu U U U jV) U<|Ld<|Ew U ?_;rotate_left
    refine Se ?_;have jn:=hR (s.G (st.z mb (some (.Y (bP 0 (M1++[(r,bQ (We t))])) (M1++[(r,bQ (We t))]).length)))) (M1++[(r,bQ (We t))]) (CL.u (cI.g CL.B (fun _ h=>h) (fun _ h=> .inl h) (Qj _))) ⟨Ah.trans (if_pos rfl),nO.2⟩ (fun p hp=>?_) (fun p hp=>?_) fun hb=>Ch.u (lI.g Ch.B) hb
    .exact⟨.inl U,rfl,_,Ac U U,fun h=>absurd h (BB (.inr (by rw[cI.a];exact hS.2))),jn⟩
    .rcases List.mem_append.1 hp with h|h
     .exact hMI p h
     .rw[Qp.1 h];exact⟨t,hI,rfl⟩
    .rcases List.mem_append.1 hp with h|h
     .exact(hpI p h).imp id fun⟨u,h1,h2⟩=>⟨u,h1,Nat.le_of_lt h2⟩
     .rw[Qp.1 h];exact .inr ⟨t,hI,Qj _⟩
end Go.Proofs.YtpihdbhocgcbpaaGreatDoor.Wy
open Go Am
namespace Am
variable {ks:List Nat}
theorem NU {E:c_} {f:FuncId} {v w:AV} {s st:St} (hf:E.g f=2) (hz:C9 st 0 40 v []=some (w,ks)) (hk:∀b∈ks,st.c<=b) (hu:CD s.a 40 w=true):∃cr,k9 E f s v st=some cr/\((st.d=[]/\cr= .J w)\/cr= .O w (s.G (q_ st ks))):=by
 by_cases hl:st.d=[]
 .refine⟨.J w,?_,.inl ⟨hl,U⟩⟩;unfold k9 qT;rw[hf];simp only;show((Wa 0 v st).bind _)=_;unfold Wa;rw[hz];simp only[Qe];rw[I8 hk,hl];show some (bif CD s.a 40 w then _ else _)=_;rw[hu];rfl
 .exact⟨_,GV hf hl hz hk,.inr U⟩
end Am
namespace Go.Proofs.YtpihdbhocgcbpaaGreatDoor.Wy
variable {R RP:AV->St->Prop} {pt:Bool} {e x:Int} {l:List Cp} {S:List Int} {fr:List Nat} {ts:List Zz} {i:Nat} {sF:St} {r:jN}
theorem Js (h:i<ts.length) (nm:List Nat):Cf (ts.take (i+1)) nm=((Cf (ts.take i) nm).1++[(CC ts[i] (Cf (ts.take i) nm).2).1],(CC ts[i] (Cf (ts.take i) nm).2).2):=by
 rw[List.take_succ_eq_append_getElem h,E5,La]
theorem Ty {s:St} (hR:R (.O [.int .i64 1,.int .i64 x,.Ca]) s):VX (EK W1) 67 [.int .i64 x] s R RP:=by
 refine Ar U ?_;have g0:(s.u.g (.J [.int .i64 0,.int .i64 0,.Ca] 39 false)).b.g s.a=some (.J [.int .i64 0,.int .i64 0,.Ca] 39 false):=Ax;refine Es<|Lo (kz U) U<|Ld<|Es<|Lv 2 U<|Ln (kw U g0 U) U<|Ld<|Se ?_;exact AC ⟨.inl U,_,rfl,[.O [.int .i64 1,.int .i64 x,.Ca]],BZ U U U (Ah.trans (if_pos U)) (Qj _) U,.J _,Fy (ks:=[]) (by kernel_rfl) (BQ (Qj _) U) U (fun b hb=>by cases hb) U,hR⟩
def uJ (s:St) (nb:Nat) (V:AV) (mb:Nat):Prop:=s.b.g nb=some (.J [V,.bW mb] 96 false)/\nb<s.a
theorem Mb {V:AV} {l:List C8} {L:List (C8×AV)} (WO:Yf l) (hV:eo V l L) (ig:l.length<=60):∀(n:Nat) (t:Zz),We t<=n->∀ {s:St} {nb mb r:Nat} {nm:List Nat} (_:Is l t r) (_:uJ s nb V mb) (_:aN s mb nm) {R RP:AV->St->Prop}
 (_:∀s',CL s s' (fun x=>x=mb)->aN s' mb (CC t nm).2->(s.c<=s.a->Ch s s')->R (.O (Cm (CC t nm).1)) s'),
 VX (EK W1) 46 [.J nb 0,.int .i64 (r:Nat)] s R RP:=by
 intro n;induction n with
 |zero=>intro t ht;cases t<;>rw[We]at ht<;>omega
 |succ n ih=>
  intro t ht s nb mb r nm hI hN hS R RP hR;refine Ar U ?_;obtain⟨sA,XP⟩:∃x,x=s.u.g (.J [.int .i64 0,.int .i64 0,.Ca] 39 false):=⟨_,rfl⟩
  have nA:sA.a=s.a+1:=by rw[XP];rfl
  have bA:sA.c=s.a:=by rw[XP];rfl
  have oA:∀d,d<s.a->sA.b.g d=s.b.g d:=fun d hd=>by rw[XP];exact Ap hd
  have gA:sA.b.g s.a=some (.J [.int .i64 0,.int .i64 0,.Ca] 39 false):=by rw[XP];exact Ax
  have cA:CL s.u sA (fun x=>x=mb):=by rw[XP];exact CL.z
  have lA:Ch s.u sA:=by rw[XP];exact Ch.z (Qj _)
  have gN:=(oA nb hN.2).trans hN.1;have ql:r<l.length:=by
   cases t with
   |O k=>rw[Is]at hI;exact hI.2.1
   |J o n ks=>rw[Is]at hI;exact hI.1
  obtain⟨a,cs,hka,ru⟩:=hV.u ql;obtain⟨a1,a2,a3,a4,a5,a6,a7⟩:=AU (st:=sA) (z:=[.bool false,.bool false,.bool false,.int .i64 0,.int .i64 0,.Ca]) (cs:=[.bool l[r].b,.bool (l[r].a&& !l[r].c),.bool l[r].c,.int .i64 l[r].op,.int .i64 l[r].n,a]) (T:=98);obtain⟨b1,b2⟩:=AP (st:=sA) (z:=[.bool false,.bool false,.bool false,.int .i64 0,.int .i64 0,.Ca]) (cs:=[.bool l[r].b,.bool (l[r].a&& !l[r].c),.bool l[r].c,.int .i64 l[r].op,.int .i64 l[r].n,a]) (T:=98) (own:=fun x=>x=mb) (by omega);refine Es<|Lo (kz U) U<|Ld ?_;show Cu _ _ _ _ (s.u.g (.J [.int .i64 0,.int .i64 0,.Ca] 39 false)) _;rw[<-XP];refine Es<|Lv 3 U<|Lo (kl U gN U) U<|qm U<|Lq (kv U ru) U<|Lv 1 U<|Lo (kz U) U<|Ln (kw U a1 U) U<|Ld<|Sq ?_;refine Cu.sub (l':=[(5,.J sA.a 0),(4,.J s.a 0),(1,.int .i64 (r:Nat)),(0,.J nb 0)]) ?_ (Ab (by repeat' constructor))
  refine Az fun sC dG=>?_;have nC:sC.a=s.a+2:=by rw[dG];show sA.a+1=_;omega
  have oC:∀d,d<sA.a->sC.b.g d=sA.b.g d:=fun d hd=>by rw[dG];exact a4 d hd
  have sW:sC.b.g sA.a=some (.J [.bool l[r].b,.bool (l[r].a&& !l[r].c),.bool l[r].c,.int .i64 l[r].op,.int .i64 l[r].n,a] 98 false):=by rw[dG];exact a2
  have cC:CL s.u sC (fun x=>x=mb):=by rw[dG];exact cA.g b1 (fun _ h=>h) (fun _ h=> .inl h) (Qj _)
  have lC:Ch s.u sC:=by rw[dG];exact lA.g b2
  have gC4:=(oC s.a (by omega)).trans gA;have gCN:=(oC nb (by have:=hN.2;omega)).trans gN;have bC:sC.c=s.a:=cC.a;have mC:aN sC mb nm:=⟨(oC mb (by have:=hS.2;omega)).trans ((oA mb hS.2).trans hS.1),by have:=hS.2;omega⟩
  clear dG XP a1 a2 a3 a4 a5 a6 a7 b1 b2 gA gN cA lA oC oA;have XB:=(WO r ql).op;cases t with
  |O k=>
   rw[Is]at hI;obtain⟨rfl,_,h0⟩:=hI;obtain⟨q1,q2⟩:=XB.1 h0;have q3:(l[k].a&& !l[k].c)=false:=by
    rcases q2 with h|h
    .rw[h];rfl
    .rw[h,Bool.not_true,Bool.and_false]
   rw[q1,q3]at sW;have bJ:=U0 mC k;rw[CC]at hR;have Xn:∀(sF:St) (lF:Sl),Am.d_ 4 lF=some (.J s.a 0)->sF.b.g s.a=some (.J [.int .i64 1,.int .i64 (nm.idxOf k:Nat),.Ca] 39 false)->CL s.u sF (fun x=>x=mb)->Ch s.u sF->aN sF mb (X6 nm k)->
    ∃vs,CK (EK W1) sF lF (Tryz.f46).results.toList=some vs/\∃cr,k9 (EK W1) 46 s (Zi vs) sF=some cr/\match cr with
     | .J v=>R v s
     | .O v s'=>R v s'
     | .Y _ _=>False:=fun sF lF hl4 g4 cF lgF mF=>by
    obtain⟨cr,rF,ta⟩:=NU (E:=EK W1) (f:=46) (v:= .O [.int .i64 1,.int .i64 (nm.idxOf k:Nat),.Ca]) (w:= .O [.int .i64 1,.int .i64 (nm.idxOf k:Nat),.Ca]) (s:=s) (st:=sF) (ks:=[]) rfl rfl (fun b hb=>by cases hb) rfl;refine⟨_,BZ hl4 U U g4 (Qj _) U,cr,rF,?_⟩;rcases ta with⟨Yc,rfl⟩|rfl
    .exact hR s CL.A ⟨(lgF.b mb hS.2 (by rw[Yc];exact fun h=>by cases h)).symm.trans mF.1,hS.2⟩ fun _=>Ch.A
    .exact hR _ (CL.u cF) mF fun hb=>Ch.u lgF hb
   by_cases hr:k∈nm
   .rw[if_pos hr,decide_eq_true hr]at bJ;have ea:X6 nm k=nm:=by unfold X6;rw[if_pos hr]
    rw[ea]at Xn;refine Es<|Lv 1 U<|Lo (kl U sW U) U<|Lv 2 U<|Lg U U (kl U sW U)<|Lw U<|Tf U<|Sk<|Es<|Lv 3 U<|Lo (kl U gCN U) U<|qm U<|Lo (Dm U OZ qZ nu U U bJ) U<|Lw U<|Sq<|Ew U ?_;refine Tf U<|Sk<|Es<|qm U ?_;refine An U U (by kernel_rfl) U U U U (Ty ?_);refine Ln (kw U gC4 U) U<|Ld<|Se ?_;exact AC ⟨.inl U,_,rfl,Xn _ _ U (Ah.trans (if_pos U)) (cC.g CL.B (fun _ h=>h) (fun d h=> .inr (by show s.a<=d;omega)) (Qj _)) (lC.g Ch.B) ⟨(Ah.trans (if_neg (by have:=hS.2;omega))).trans mC.1,mC.2⟩⟩
   .rw[if_neg hr,decide_eq_false hr]at bJ;have ei:nm.idxOf k=nm.length:=List.idxOf_eq_length hr;have hp:=yY mC hr;have hlen:(ZH 0 nm).length=nm.length:=F5 0 nm;rw[ei]at Xn;refine Es<|Lv 1 U<|Lo (kl U sW U) U<|Lv 2 U<|Lg U U (kl U sW U)<|Lw U<|Tf U<|Sk<|Es<|Lv 3 U<|Lo (kl U gCN U) U<|qm U<|Lo (Dm U OZ qZ nu U U bJ) U<|Lw U<|Sq<|Ew U ?_;refine Tt U<|Es<|Lv 3 U<|Lo (kl U gCN U) U<|Lo (Gf U U U U OZ U mC.1) U ?_;rw[hlen];refine Lw U<|Sr<|Lv 3 U<|Lo (kl U gCN U) U<|Lv 2 U<|Ln (Ge (.inl U) OZ nu U U U hp) U<|Ld<|Es<|qm U ?_;refine An U U (by kernel_rfl) U U U U (Ty ?_);have g4:=((Ah (s:=sC) (b:=mb) (o:=some (.Y (ZH 0 (X6 nm k)) (X6 nm k).length))).trans (if_neg (show s.a≠mb by have:=hS.2;omega))).trans gC4;refine Ln (kw U g4 U) U<|Ld<|Se ?_
    exact AC ⟨.inl U,_,rfl,Xn _ _ U (Ah.trans (if_pos U)) ((cC.g CL.B (own:=fun x=>x=mb) (fun _ h=>h) (fun d h=> .inl h) (Qj _)).g CL.B (fun _ h=>h) (fun d h=> .inr (by show s.a<=d;omega)) (Qj _)) ((lC.g Ch.B).g Ch.B) ⟨(Ah.trans (if_neg (by have:=hS.2;omega))).trans (Ah.trans (if_pos U)),mC.2⟩⟩
  |J o n' ts=>
   rw[Is]at hI;obtain⟨_,h0,rfl,rfl,hIs⟩:=hI;have hcond:(if l[r].b=true then true else l[r].a&& !l[r].c)=true:=by
    cases e1:l[r].b with
    |true=>rfl
    |false=>
     cases e2:l[r].a with
     |false=>exact absurd (XB.2 ⟨e1,.inl e2⟩) h0
     |true=>
      cases e3:l[r].c with
      |false=>rfl
      |true=>exact absurd (XB.2 ⟨e1,.inr e3⟩) h0
   have zd:sC.c<=sC.a:=by omega
   obtain⟨a1,a2,a3,a4,a5,a6,a7⟩:=AU (st:=sC) (z:=[.int .i64 0,.int .i64 0,.Ca]) (cs:=[.int .i64 l[r].op,.int .i64 l[r].n,.Ca]) (T:=39);have htl:=J7 hIs;have Y0:=Rg hIs;have qy:=hka.len;rw[<-htl]at qy;have hokr:=(WO r ql).d;have gC5':=(a4 sA.a (by omega)).trans sW;refine B0 (DG (fun _:Unit=>([(22,.bool true),(5,.J sA.a 0),(4,.J s.a 0),(1,.int .i64 (r:Nat)),(0,.J nb 0)],sC)) (fun _=>True) ?_ ?_)
   .cases e1:l[r].b with
    |true=>
     rw[e1]at sW;refine Sr<|Lv 1 U<|Lo (kl U sW U) U<|Lw U ?_;exact⟨U,(),trivial,U,Ab (by repeat' constructor)⟩
    |false=>
     rw[e1]at sW hcond;have ct:(l[r].a&& !l[r].c)=true:=hcond;rw[ct]at sW;refine Sr<|Lv 1 U<|Lo (kl U sW U) U<|Lv 2 U<|Lg U U (kl U sW U)<|Lw U ?_;exact⟨U,(),trivial,U,Ab (by repeat' constructor)⟩
   rintro⟨⟩ _;dsimp only;refine Tt U<|Es<|Lv 1 U<|Lo (kl U sW U) U<|Lv 1 U<|Lo (kl U sW U) U<|Lv 1 U<|Lo (kz U) U<|Ln (kw U a1 U) U<|Ld<|Sq<|Ew U<|Sb ?_;refine Az fun sL nN=>?_;have nL:sL.a=s.a+3:=by rw[nN];show sC.a+1=_;omega
   have oL:∀d,d<sC.a->sL.b.g d=sC.b.g d:=fun d hd=>by rw[nN];exact a4 d hd
   have gL6:sL.b.g sC.a=some (.J [.int .i64 l[r].op,.int .i64 l[r].n,.Ca] 39 false):=by rw[nN];exact a2
   have cL:CL s.u sL (fun x=>x=mb):=by rw[nN];exact cC.g (AP (own:=fun x=>x=mb) zd).1 (fun _ h=>h) (fun _ h=> .inl h) (Qj _)
   have lL:Ch s.u sL:=by rw[nN];exact lC.g (AP (own:=fun _=>False) zd).2
   have gL5:=(oL sA.a (by omega)).trans sW;have gL4:=(oL s.a (by omega)).trans gC4;have fk:=hN.2;have zf:=hS.2;have gLN:=(oL nb (by omega)).trans gCN;have mL:aN sL mb nm:=⟨(oL mb (by omega)).trans mC.1,by omega⟩
   have bL:sL.c=s.a:=cL.a;clear nN a1 a2 a3 a4 a5 a6 a7 gC5';have hnmb:nb≠mb:=fun e=>by have:=hS.1;rw[<-e,hN.1]at this;cases this
   refine Ai (fun x:Nat×AV×St=>([(7,.int .i64 (x.1:Nat)),(6,.J sC.a 0),(5,.J sA.a 0),(4,.J s.a 0),(0,.J nb 0)],x.2.2)) (fun x=>ts.length-x.1)
    (fun x=>x.1<=ts.length/\CL sL x.2.2 (fun y=>y=mb\/y=sC.a)/\Ch sL x.2.2/\aN x.2.2 mb (Cf (ts.take x.1) nm).2/\x.2.2.b.g sC.a=some (.J [.int .i64 l[r].op,.int .i64 l[r].n,x.2.1] 39 false)/\a_ x.2.2 39 3 x.2.1 ((Cf (ts.take x.1) nm).1.flatMap Cm) x.1/\∀y,CB y x.2.1=true->sL.a<=y)
    (0,.Ca,sL) ⟨Qo _,CL.A,Ch.A,by rw[List.take_zero,Cf];exact mL,gL6,by rw[List.take_zero,Cf];exact a_.nil _ _ _,fun y h=>by cases h⟩ rfl (Ab (by repeat' constructor)) ?_
   rintro⟨i,kv,st⟩ ⟨hi,cI,lI,mI,g6,gS,oI⟩;dsimp only at hi cI lI mI g6 gS oI|-;have nI:=cI.d;have g5:=(cI.b sA.a (by omega) (by omega)).trans gL5;have g4:=(cI.b s.a (by omega) (by omega)).trans gL4;have gN:=(cI.b nb (by omega) (by omega)).trans gLN;have uH:st.c<=st.a:=by rw[cI.a];omega
   by_cases C5:i<ts.length
   .have b7:i<l[r].args.length:=by omega
    obtain⟨hz,hIk⟩:=Y0 i C5 b7;obtain⟨ak,hak⟩:∃ak:Nat,l[r].args[i]=ak:=⟨l[r].args[i].toNat,by omega⟩
    rw[hak,Int.toNat_natCast]at hIk;obtain⟨ur,dE⟩:=hka.at b7;rw[hak]at dE;have X2:We ts[i]<=n:=by
     have:=I3 (Ql C5);rw[We]at ht;omega
    have g6k:=fun(_:True)=>g6;clear g6;focus
     refine Sq<|Es<|Lv 2 U<|Lo (kl U g5 U) U<|Lq (kn U qy) U<|Lw U ?_;refine Cd U (fun h6=>?_) (fun h6=>?_);refine Sk<|Sq<|Sb<|AK (by kernel_rfl)<|Nv 1 U ?_;rotate_left;exact absurd h6 (by omega)
    have gk:=g6k trivial;clear g6k;refine Dl U I0 Gg U gk U (IA gS) (EU gS) U (.inl U) U U<|Nv 2 U<|Nm U g5 U (.inl U) U<|Nv 1 U<|Nq (BK U I1 D9 U U dE) U<|Nv 1 U ?_;refine EE (by kernel_rfl) U U U (ih ts[i] X2 (s:=st.B st.b) (nb:=nb) (mb:=mb) hIk ⟨gN,show nb<st.a by omega⟩ mI
     (R:=fun v s2=>v= .O (Cm (CC ts[i] (Cf (ts.take i) nm).2).1)/\CL (st.B st.b) s2 (fun x=>x=mb)/\aN s2 mb (CC ts[i] (Cf (ts.take i) nm).2).2/\Ch (st.B st.b) s2)
     (RP:=fun _ _=>False)
     (fun s2 c1 m1 l1=>⟨rfl,c1,m1,l1 (Qj _)⟩)) ?_ rfl (.inl rfl) rfl rfl ?_ (fun _ _ h=>h.elim)
    .exact J6 (by kernel_rfl)
    .rintro v s2 ⟨rfl,c1,m1,l1⟩;obtain⟨p1,p2,p3,p4,p5⟩:=Gv c1 l1 uH;have g62:=(c1.b sC.a (show sC.a<st.a by omega) (by omega)).trans gk;refine⟨p1,p2,fun e he=>?_,fun dA cS=>?_⟩
     .rw[Qp.1 he];exact .inr (.inr ⟨_,_,_,g62,U⟩)
     have n3:(st.A s2).a=s2.a:=rfl;have tK:=(p5 mb m1.2).trans m1.1;refine Cz.named fun s3 qz=>?_;rw[<-qz]at p3 p4 n3 tK;clear qz;have hS3:aN s3 mb (CC ts[i] (Cf (ts.take i) nm).2).2:=⟨tK,by rw[n3];exact m1.2⟩
     have g63:=(p3.b sC.a (by omega) (by omega)).trans gk;have b3:s3.c<=s3.a:=by rw[p3.a];omega
     have rQ:a_ s3 39 3 kv ((Cf (ts.take i) nm).1.flatMap Cm) i:=gS.CQ p3.d fun y hy=>p3.b y (gS.own hy) (by have:=oI y hy;omega);have et:=Js C5 nm;have ek:=A4 (CC ts[i] (Cf (ts.take i) nm).2).1;rw[ek];generalize hk:(CC ts[i] (Cf (ts.take i) nm).2).1=k at*;refine AI U nr Ks qe U U U (.inl U) U U ?_;refine ED (new:=[.int .i64 k.op,.int .i64 k.n,CI k.g]) rQ b3 U (by decide) (A3 (by omega) (by decide)) (A3 (by omega) (by decide)) U U U U nr Ks VA qe (by kernel_rfl) (by kernel_rfl) U U (by kernel_rfl) (by rw[List.all_cons,cS.all U (by kernel_rfl)];kernel_rfl) (.inl U) U U fun v2 s4 nl4 g4' o4 c4 l4 Y8=>?_;refine Nv 1 U ?_;have fU:v2.g=[v2]/\v2.u=false:=by rcases g4' with⟨rfl,_⟩|⟨_,rfl,_⟩<;>exact⟨rfl,rfl⟩
     have Xo:¬CB sC.a kv=true:=fun h=>by have:=oI _ h;omega
     have sV:CB sC.a kv=false:=by simpa using Xo
     have n4:=c4.d;have g64:=(c4.b sC.a (by omega) Xo).trans g63;refine B8 (by omega) U Gg U U g64 (by rw[fU.1];rfl) fU.2 (by rw[fU.1];rfl) (Y8 sC.a (by omega) sV _ (AH (by rw[List.all_cons,cS.all U (by kernel_rfl)];kernel_rfl))) (by kernel_rfl) (.inl U) U U ?_;refine Cz.done<|Sr<|qm U ?_;refine Lq (ka (b:=1) U (by omega)) U ?_;refine Lw U ?_;have kg:sL.c<=sL.a:=by rw[bL];omega
     refine⟨(i+1,v2,bj s4 sC.a (some (.J [.int .i64 l[r].op,.int .i64 l[r].n,v2] 39 false))),⟨C5,?_,((lI.g p4).g l4).g Fx,⟨(VY.trans (if_neg (by omega))).trans ?_,?_⟩,VY.trans (if_pos U),?_,fun y hy=>by have:=o4 y hy;omega⟩,by show ts.length-(i+1)<ts.length-i;omega,rfl,rfl,Ab (by repeat' constructor)⟩
     .exact((cI.g p3 (own:=fun y=>y=mb\/y=sC.a) (fun _ h=>h) (fun y h=> .inl (.inl h)) kg).g c4 (fun _ h=>h) (fun y h=> .inr (oI y h)) kg).g De (fun _ h=>h) (fun y h=> .inl (.inr h)) kg
     .show s4.b.g mb=some (.Y (ZH 0 (Cf (ts.take (i+1)) nm).2) (Cf (ts.take (i+1)) nm).2.length);rw[et];exact(c4.b mb hS3.2 fun h=>by have:=oI _ h;omega).trans hS3.1
     .show mb<s4.a;have:=hS3.2;omega
     .show a_ (bj s4 _ _) 39 3 v2 ((Cf (ts.take (i+1)) nm).1.flatMap Cm) (i+1);rw[et,List.flatMap_append,List.flatMap_cons,List.flatMap_nil,List.append_nil,ek];exact g4'.CQ (Qj _) fun y hy=>VY.trans (if_neg fun e=>by have:=o4 y hy;omega)
   .obtain rfl:i=ts.length:=by omega
    rw[List.take_length]at mI gS;focus
     refine Sq<|Es<|Lv 2 U<|Lo (kl U g5 U) U<|Lq (kn U qy) U<|Lw U ?_;refine Cd U (fun h7=>?_) (fun h7=>?_);exact absurd h7 (by omega);refine Sx<|A0 U<|Es<|Lo (kL U g6 U) U<|Ln (kw U g4 U) U<|Ld ?_;rotate_left
    refine Az fun sF ij=>?_;have gF:sF.b.g s.a=some (.J [.int .i64 l[r].op,.int .i64 l[r].n,kv] 39 false):=by rw[ij];exact Ah.trans (if_pos rfl)
    have oF:∀y,y≠s.a->sF.b.g y=st.b.g y:=fun y hy=>by rw[ij];exact Ah.trans (if_neg hy)
    have nF:sF.a=st.a:=by rw[ij];rfl
    have cF:CL s.u sF (fun x=>x=mb):=by
     rw[ij];exact(cL.g cI (fun _ h=>h) (fun y h=>by
      rcases h with h|h
      .exact .inl h
      .exact .inr (by show s.a<=y;omega)) (Qj _)).g CL.B (fun _ h=>h) (fun y h=> .inr (by show s.a<=y;omega)) (Qj _)
    have lF:Ch s.u sF:=by rw[ij];exact(lL.g lI).g Ch.B
    clear ij;generalize tM:(Cf ts nm).1=ks at*;have rH:ks.length=ts.length:=by rw[<-tM,BU]
    rw[<-rH]at gS;have grF:a_ sF 39 3 kv (ks.flatMap Cm) ks.length:=gS.CQ (Nat.le_of_eq nF.symm) fun y hy=>oF y (by have:=oI y hy;omega);obtain⟨bs,vD,hz⟩:=HL (m:=0) (j:=37) grF fun _ _=>Qo _;have mH:∀y∈bs,s.a+3<=y:=fun y hy=>by have:=oI y (vD y hy);omega
    have rK:C9 sF 0 40 (.O [.int .i64 l[r].op,.int .i64 l[r].n,kv]) []=some (.O [.int .i64 l[r].op,.int .i64 l[r].n,CI ks],bs):=by
     show((C9.many (C9 sF 0 39) [.int .i64 l[r].op,.int .i64 l[r].n,kv] []).bind _)=_;have h1:C9.many (C9 sF 0 39) [.int .i64 l[r].op,.int .i64 l[r].n,kv] []=some ([.int .i64 l[r].op,.int .i64 l[r].n,CI ks],bs):=by
      simp only[C9.many,show∀n q,C9 sF 0 39 (.int .i64 n) q=some (.int .i64 n,q)from fun _ _=>rfl,hz,Qe,List.append_nil]
     rw[h1];rfl
    obtain⟨cr,rF,ta⟩:=NU (E:=EK W1) (f:=46) (s:=s) rfl rK (fun y hy=>by rw[cF.a];show s.a<=y;have:=mH y hy;omega) (by
     have hU:CD s.a 39 (CI ks)=true:=by rcases Ba ks with e|⟨_,_,e⟩<;>rw[e]<;>rfl
     show [AV.int .i64 l[r].op,.int .i64 l[r].n,CI ks].all (CD s.a 39)=true;rw[List.all_cons,List.all_cons,List.all_cons,hU];rfl)
    have enm:CC (.J l[r].op l[r].n ts) nm=(.mk l[r].op l[r].n ks,(Cf ts nm).2):=by rw[CC,tM]
    rw[enm]at hR;have hmF:aN sF mb (Cf ts nm).2:=⟨(oF mb (by omega)).trans mI.1,by rw[nF];exact mI.2⟩
    refine Se ?_;refine AC ⟨.inl U,_,U,[.O [.int .i64 l[r].op,.int .i64 l[r].n,kv]],BZ U U U gF (Qj _) U,cr,rF,?_⟩;rcases ta with⟨Yc,rfl⟩|rfl
    .have:=hR s CL.A ⟨(lF.b mb hS.2 (by rw[Yc];exact fun h=>by cases h)).symm.trans hmF.1,hS.2⟩ fun _=>Ch.A;rw[AN]at this;exact this
    .have:=hR (s.G (q_ sF bs)) (CL.u (CL.I cF (fun y hy=>by show s.a<=y;have:=mH y hy;omega) (Qj _))) ⟨(Mx fun hm=>by have:=mH _ hm;omega).trans hmF.1,by show mb<(q_ sF bs).a;rw[GW];exact hmF.2⟩ fun hb=>Ch.u lF.I hb;rw[AN]at this;exact this
theorem SJ {s:St} {m j:Nat} {v:AV} (h:a_ s 39 3 v (l.flatMap Cm) l.length) (hm:∀b,CB b v=true->m<=b):∃bs:List Nat,(∀b∈bs,CB b v=true)/\∀ks,C9 s m (j+2) v ks=some (CI l,bs++ks):=by
 cases l with
 |nil=>
  obtain⟨rfl,_⟩:=h.zero;exact⟨[],(fun b hb=>by cases hb),fun ks=>rfl⟩
 |cons a l=>
  rcases h with⟨_,h0,_⟩|⟨b,rfl,hb,hg,hl,_⟩
  .cases h0
  .refine⟨[b],fun c hc=>by rw[Qp.1 hc];exact Nat.beq_refl b,fun ks=>?_⟩;rw[GZ (hm b (Nat.beq_refl b)) hg hl (Vb _ ks),KJ];rfl
theorem PR {c:Cj} {s:Z0} (h:bh c s r) (he:r= .J e):e=5\/e=8:=by
 induction h with
 |Y _ _ ih=>exact ih he
 |O _=>cases he
 |J h1=>grind [Xh]
theorem zw {cs fs:List Cw} {f:Int} {rhs:Zz} (h:40<We rhs\/∃t∈ts,40<We t):YA cs fs f ts fr rhs=none:=by
 unfold YA;rw[if_neg];rintro⟨h1,h2,h3⟩;rcases h with h|⟨t,ht,h⟩
 .have:=(HK h2).1;omega
 .obtain⟨j,hj,rfl⟩:=List.mem_iff_getElem.1 ht;have hj2:j<(Cf ts []).1.length:=by rw[BU];exact hj
  have h4:=List.all_eq_true.1 h3 _ (Ql hj2);rw[Jv hj]at h4;have:=(HK h4).1;omega
theorem NX {l:List C8} (WO:Yf l):∀(ts:List Zz) (nm:List Nat),(∀j (h:j<ts.length),Is l ts[j] j)->∀u∈(Cf ts nm).1,WV u:=fun ts nm h u hu=>by
 have key:∀(ts:List Zz) (nm:List Nat),(∀t∈ts,∃r,Is l t r)->∀u∈(Cf ts nm).1,WV u:=by
  intro ts;induction ts with
  |nil=>intro nm _ u hu;rw[Cf]at hu;cases hu
  |cons t ts ih=>grind [Cf,Qh,J8,Qg]
 refine key ts nm (fun t ht=>?_) u hu;obtain⟨j,hj,rfl⟩:=List.mem_iff_getElem.1 ht;exact⟨j,h j hj⟩
theorem TC {c:Cj} {s s':Z0} (h:Xh c s= .Y s') (hs:∀r∈s.b,r.a=true->r.b=false):∀r∈s'.b,r.a=true->r.b=false:=by
 unfold Xh at h;simp only at h;split at h
 .split at h
  .cases h
  .next Xo=>
   rw[not_or,Bool.not_eq_true,Bool.not_eq_true]at Xo;split at h
   .cases h
   .split at h
    .cases h
    .cases h;intro r hr hm;rcases List.mem_append.1 hr with hr|hr
     .rcases List.mem_or_eq_of_mem_set hr with hr|hr
      .exact hs r hr hm
      .subst hr;have hm:(s.b.getD _ C8.g).a=true:=hm;rw[Xo.2]at hm;cases hm
     .rw[List.eq_of_mem_replicate hr];rfl
 .grind
theorem zy {c:Cj} {s t:Z0} (h:bh c s r) (he:r= .O t) (hs:∀r∈s.b,r.a=true->r.b=false):∀r∈t.b,r.a=true->r.b=false:=by
 induction h with
 |Y h1 h2 ih=>exact ih he (TC h1 hs)
 |O h1=>cases he;exact hs
 |J h1=>cases he
theorem MC (t:Cp):(Cm t).length=3:=by rw[A4];rfl
theorem load_tm {s:St} {b q:Nat} (hq:q<l.length) (hg:s.b.g b=some (.J (l.flatMap Cm) 39 pt)):Wq (EK W1) 39 s (.J b (0+q*(2+1)))=some (.O (Cm l[q])):=by
 have hl:=Hd (enc:=Cm) (k:=3) MC l;rw[Bl ag_39 Ks hg (by rw[hl];omega),Nat.zero_add,He MC hq,List.take_append_of_le_length (by rw[MC];exact Qj _),List.take_of_length_le (by rw[MC];exact Qj _)]
section
variable {s : St} {c : Cj} {f : Int} {Cc : List Int}
def zc:List AV:=[.int .i64 0,.Ca,.int .i64 0,.int .i64 0,.Ca,.int .i64 0]
theorem TY {l:Sl} {q:eB} {pv:AV} (h6:Am.d_ 6 l=some (.J (s.a+1) 0)) (h7:Am.d_ 7 l=some (.int .i64 e)) (g6:sF.b.g (s.a+1)=some (.J [.int .i64 q.d,pv,.int .i64 q.a.op,.int .i64 q.a.n,CI q.a.g,.int .i64 q.b] 41 false)) (hl:sF.d=[]) (hb:sF.c=s.a)
 (gr:a_ sF 39 3 pv (q.c.flatMap Cm) q.c.length) (ho:∀b,CB b pv=true->s.a<=b):
 ∃vs,CK (EK W1) sF l (Tryz.f17).results.toList=some vs/\∃cr,k9 (EK W1) 17 s (Zi vs) sF=some cr/\match cr with
  | .J v=>v= .Y [.O (W3 q),.int .i64 e]/\s=s
  | .O v s'=>v= .Y [.O (W3 q),.int .i64 e]/\s'=s
  | .Y _ _=>False:=by
 obtain⟨bs,vD,hz⟩:=SJ (m:=s.a) (j:=36) gr ho;refine⟨[.O [.int .i64 q.d,pv,.int .i64 q.a.op,.int .i64 q.a.n,CI q.a.g,.int .i64 q.b],.int .i64 e],BZ h6 ag_41 xO g6 (Qj _) (Ac h7 U),.J (.Y [.O (W3 q),.int .i64 e]),?_,U,U⟩;have h0:∀l2 m n ks,C9 sF m (n+1) (CI l2) ks=some (CI l2,ks):=fun l2 m n ks=>by
  rcases Ba l2 with e|⟨_,_,e⟩<;>rw[e]<;>rfl
 refine Fy (ks:=bs) (by kernel_rfl) hl ?_ (fun b h=>by rw[hb];exact ho b (vD b h)) ?_
 .unfold W3;show((C9.many (C9 sF s.a 39) [.O _,.int .i64 e] []).bind _)=_;have h1:C9.many (C9 sF s.a 38) [.int .i64 q.d,pv,.int .i64 q.a.op,.int .i64 q.a.n,CI q.a.g,.int .i64 q.b] []=some ([.int .i64 q.d,CI q.c,.int .i64 q.a.op,.int .i64 q.a.n,CI q.a.g,.int .i64 q.b],bs):=by
   simp only[C9.many,show∀n q,C9 sF s.a 38 (.int .i64 n) q=some (.int .i64 n,q)from fun _ _=>rfl,h0,hz,Qe,List.append_nil]
  have h2:C9 sF s.a 39 (.O [.int .i64 q.d,pv,.int .i64 q.a.op,.int .i64 q.a.n,CI q.a.g,.int .i64 q.b]) []=some (.O [.int .i64 q.d,CI q.c,.int .i64 q.a.op,.int .i64 q.a.n,CI q.a.g,.int .i64 q.b],bs):=by grind [C9]
  show((((C9 sF s.a 39 (.O _) []).bind _)).bind _)=_;rw[h2];rfl
 .unfold W3;rcases Ba q.c with e1|⟨_,_,e1⟩<;>rcases Ba q.a.g with e2|⟨_,_,e2⟩<;>rw[e1,e2]<;>rfl
theorem I5 {l:Sl} (h6:Am.d_ 6 l=some (.J (s.a+1) 0)) (h7:Am.d_ 7 l=some (.int .i64 e)) (g6:sF.b.g (s.a+1)=some (.J zc 41 false)) (hl:sF.d=[]) (hb:sF.c=s.a):
 ∃vs,CK (EK W1) sF l (Tryz.f17).results.toList=some vs/\∃cr,k9 (EK W1) 17 s (Zi vs) sF=some cr/\match cr with
  | .J v=>v= .Y [.O (W3 Y5),.int .i64 e]/\s=s
  | .O v s'=>v= .Y [.O (W3 Y5),.int .i64 e]/\s'=s
  | .Y _ _=>False:=TY (q:=Y5) h6 h7 g6 hl hb (a_.nil _ _ _) fun b hb=>by cases hb
theorem refA:let sA:=(s.u.g (.J (CJ c) 28 false)).g (.J zc 41 false)
 CL s.u sA (fun _=>False)/\sA.d=[]/\sA.a=s.a+2/\sA.c=s.a/\sA.b.g s.a=some (.J (CJ c) 28 false)/\sA.b.g (s.a+1)=some (.J zc 41 false):=
 ⟨CL.z.g CL.z (own:=fun _=>False) (o2:=fun _=>False) (fun _ h=>h) (fun _ h=> .inl h) (Qj _),rfl,rfl,rfl,(Ap (show s.a<s.a+1 by omega)).trans Ax,Ax⟩
theorem ref_arg (hf:r_ c) (h:¬(X5 c=true/\0<=f/\f<c.c.length)):VX (EK W1) 17 [.O (CJ c),.int .i64 f,Cq CN 1 Cc] s (fun v s'=>v=ZU c f Cc/\s'=s) fun _ _=>False:=by
 have hv:ZU c f Cc= .Y [.O (W3 Y5),.int .i64 2]:=by unfold ZU dB;rw[if_neg h]
 rw[hv];refine Ar U ?_;obtain⟨sA,XP⟩:∃x,x=(s.u.g (.J (CJ c) 28 false)).g (.J zc 41 false):=⟨_,rfl⟩
 obtain⟨cA,lA,nA,bA,g3,g6⟩:=refA (s:=s) (c:=c);rw[<-XP]at cA lA nA bA g3 g6;refine Es<|Lo (BR U U U) U<|Lo (kz U) U<|Lw U<|Sq ?_;show Cu _ _ _ _ ((s.u.g (.J (CJ c) 28 false)).g (.J zc 41 false)) _;rw[<-XP];clear XP;unfold zc at g6;refine Cu.sub (l':=[(6,.J (s.a+1) 0),(3,.J s.a 0),(2,Cq CN 1 Cc),(1,.int .i64 f)]) ?_ (Ab (by repeat' constructor));have XM:=hf.e;have DU:=DU hf;cases fU:X5 c with
 |false=>
  rw[fU]at DU;refine Es<|Lo (kL U g3 U) U ?_;refine Lo (kc U (DU)) U<|Lw U<|Tt U<|Es<|Lv 1 U<|Ln (kw U g6 U) U<|Lw U<|Se ?_;exact AC ⟨.inl U,_,U,I5 U U (Ah.trans (if_pos U)) (BQ (by omega) lA) bA⟩
 |true=>
  rw[fU]at DU;have Yi:X1 f 0 ((c.c.length:Int)-1)=false:=by
   cases h2:X1 f 0 ((c.c.length:Int)-1)with
   |false=>rfl
   |true=>
    have:=VW.1 h2;exact absurd ⟨fU,by omega⟩ h
  focus
   refine Es<|Lo (kL U g3 U) U ?_;refine Lo (kc U (DU)) U<|Lv 5 U<|Lg U U (kl U g3 U)<|Lv 1 U<|Lh U U (ks U (by omega)) ?_;refine Lg U U (kc U (Du))<|Lw U ?_;refine Cn U (fun h7=>?_) (fun h7=>?_);refine Es<|Lv 1 U<|Ln (kw U g6 U) U<|Lw U ?_;rotate_left;refine Sk<|Sq<|Es<|Lo (kL U g3 U) U ?_;rotate_left
  .refine Se ?_;exact AC ⟨.inl U,_,U,I5 U U (Ah.trans (if_pos U)) (BQ (by omega) lA) bA⟩
  .rw[Yi]at h7;cases h7
theorem Si {f:Nat} (hc:ZT c) (jF:f<c.c.length) (hb:WI c=none):VX (EK W1) 17 [.O (CJ c),.int .i64 (f:Nat),Cq CN 1 Cc] s (fun v s'=>v=ZU c (f:Nat) Cc/\s'=s) fun _ _=>False:=by
 have hv:ZU c (f:Nat) Cc= .Y [.O (W3 Y5),.int .i64 7]:=by unfold ZU dB;rw[if_pos ⟨hc.b,by omega,by omega⟩,hb]
 rw[hv];refine Ar U ?_;obtain⟨sA,XP⟩:∃x,x=(s.u.g (.J (CJ c) 28 false)).g (.J zc 41 false):=⟨_,rfl⟩
 obtain⟨cA,lA,nA,bA,g3,g6⟩:=refA (s:=s) (c:=c);rw[<-XP]at cA lA nA bA g3 g6;refine Es<|Lo (BR U U U) U<|Lo (kz U) U<|Lw U<|Sq ?_;show Cu _ _ _ _ ((s.u.g (.J (CJ c) 28 false)).g (.J zc 41 false)) _;rw[<-XP];clear XP;unfold zc at g6;refine Cu.sub (l':=[(6,.J (s.a+1) 0),(3,.J s.a 0),(2,Cq CN 1 Cc),(1,.int .i64 (f:Nat))]) ?_ (Ab (by repeat' constructor));have hf:=hc.a;have XM:=hf.e;have DU:=DU hf;rw[hc.b]at DU;have Yi:X1 (f:Nat) 0 ((c.c.length-1:Nat):Int)=true:=VW.2 (by omega);have Gl:=Gl hc;have zi:W4 c= .Y [.Ca,.bool false]:=by unfold W4;rw[hb]
 rw[zi]at Gl;focus
  refine Es<|Lo (kL U g3 U) U ?_;refine Lo (kc U (DU)) U<|Lv 5 U<|Lg U U (kl U g3 U)<|Lv 1 U<|Lh U U (Bj (b:=1) U ey U U (by omega)) ?_;refine Lg U U (kc U (Du))<|Lw U ?_;refine Cn U (fun h7=>?_) (fun h7=>?_);refine Es<|Lv 1 U<|Ln (kw U g6 U) U<|Lw U ?_;rotate_left;refine Sk<|Sq<|Es<|Lo (kL U g3 U) U ?_;refine Lo (kc U (Gl)) U<|Lw U<|Ew U<|Tt U<|Es<|Lv 1 U<|Ln (kw U g6 U) U<|Lw U ?_;rotate_left
 .rw[Yi]at h7;cases h7
 .refine Se ?_;exact AC ⟨.inl U,_,U,I5 U U (Ah.trans (if_pos U)) (BQ (by omega) lA) bA⟩
theorem zz {f:Nat} (hc:ZT c) (jF:f<c.c.length) (hb:WI c=some S) (pX:Cc.length<=4000):VX (EK W1) 17 [.O (CJ c),.int .i64 (f:Nat),Cq CN 1 Cc] s (fun v s'=>v=ZU c (f:Nat) Cc/\s'=s) fun _ _=>False:=by
 have hS:=G1 hb;have hv:dB c (f:Nat) Cc=match zm c (bO c f Cc)with
  | .J e=>(Y5,e)
  | .O t=>ry c f t:=by
  unfold dB;rw[if_pos ⟨hc.b,by omega,by omega⟩,hb];rfl
 have WO:=I2 (Cc:=Cc) hc hS jF;obtain⟨res,aA⟩:=QP hc hS _ _ WO (Qj _);rw[Pu aA]at hv;refine Ar U ?_;obtain⟨sA,XP⟩:∃x,x=(s.u.g (.J (CJ c) 28 false)).g (.J zc 41 false):=⟨_,rfl⟩
 obtain⟨cA,lA,nA,bA,g3,g6⟩:=refA (s:=s) (c:=c);rw[<-XP]at cA lA nA bA g3 g6;refine Es<|Lo (BR U U U) U<|Lo (kz U) U<|Lw U<|Sq ?_;show Cu _ _ _ _ ((s.u.g (.J (CJ c) 28 false)).g (.J zc 41 false)) _;rw[<-XP];clear XP;unfold zc at g6;refine Cu.sub (l':=[(6,.J (s.a+1) 0),(3,.J s.a 0),(2,Cq CN 1 Cc),(1,.int .i64 (f:Nat))]) ?_ (Ab (by repeat' constructor));have hf:=hc.a;have XM:=hf.e;have DU:=DU hf;rw[hc.b]at DU;have Yi:X1 (f:Nat) 0 ((c.c.length-1:Nat):Int)=true:=VW.2 (by omega);have Gl:=Gl hc;have zi:W4 c= .Y [bH (zs S) S.length 1,.bool true]:=by unfold W4;rw[hb]
 rw[zi]at Gl;have Za:∀ {sF:St} {l:Sl} {e:Int},dB c (f:Nat) Cc=(Y5,e)->Am.d_ 6 l=some (.J (s.a+1) 0)->Am.d_ 7 l=some (.int .i64 e)->sF.b.g (s.a+1)=some (.J zc 41 false)->sF.d=[]->sF.c=s.a->∃vs,CK (EK W1) sF l (Tryz.f17).results.toList=some vs/\∃cr,k9 (EK W1) 17 s (Zi vs) sF=some cr/\match cr with
  | .J v=>v=ZU c (f:Nat) Cc/\s=s
  | .O v s'=>v=ZU c (f:Nat) Cc/\s'=s
  | .Y _ _=>False:=fun hw h6 h7 g6 hl hb=>by
  unfold ZU;rw[hw];exact I5 h6 h7 g6 hl hb
 focus
  refine Es<|Lo (kL U g3 U) U ?_;refine Lo (kc U (DU)) U<|Lv 5 U<|Lg U U (kl U g3 U)<|Lv 1 U<|Lh U U (Bj (b:=1) U ey U U (by omega)) ?_;refine Lg U U (kc U (Du))<|Lw U ?_;refine Cn U (fun h7=>?_) (fun h7=>?_);refine Es<|Lv 1 U<|Ln (kw U g6 U) U<|Lw U ?_;rotate_left;refine Sk<|Sq<|Es<|Lo (kL U g3 U) U ?_;refine Lo (kc U (Gl)) U<|Lw U<|Ew U<|Tf U<|Sk ?_;rotate_left
 .rw[Yi]at h7;cases h7
 refine Cu.sub (l':=[(6,.J (s.a+1) 0),(3,.J s.a 0),(2,Cq CN 1 Cc),(1,.int .i64 (f:Nat))]) ?_ (Ab (by repeat' constructor));refine Es<|Lo (kL U g3 U) U<|Lv 2 U ?_;refine An U U (by kernel_rfl) U U U U ((RF hc jF hS pX aA).mono (fun v s' hq=>?_) (fun _ _ h=>h.elim));obtain⟨hW,e0⟩:=hq;rw[e0];clear e0;cases res with
 |J e=>
  have he:=PR aA rfl;unfold lk at hW;subst hW;have Yh:e≠0:=by omega
  focus
   refine Lw U<|Sq<|Ew U ?_;refine Ce U (fun h8=>?_) (fun h8=>?_);refine Es<|Lv 2 U<|Ln (kw U g6 U) U<|Lw U ?_;rotate_left;exact absurd h8 (by omega)
  .refine Se ?_;exact AC ⟨.inl U,_,U,Za hv U U (Ah.trans (if_pos U)) (BQ (by omega) lA) bA⟩
 |O t=>
  obtain⟨V,L,hV,rfl⟩:=hW;dsimp only at hv;obtain⟨jQ,Xn⟩:=TN hc hS aA rfl WO;have fp:t.a<c.a.length:=jQ.b;have XB:=HO hc fp Xn;have lj:Y6 c t.a=c.a[t.a]:=B2 fp;rw[lj]at XB|-;have W6:=hc.g fp;rw[Ob XB]at W6;simp only[Qf]at W6;have ha:=VW.1 W6.2.2.2;have h0:0<=oA S t.a:=by rw[jQ.a];exact Int.natCast_nonneg _
  have Xd:=hS.a t.a fp h0;rw[lj,jQ.a]at Xd;unfold XO at Xd;rw[if_pos (.inr XB)]at Xd;have fq:=dT Xd;obtain⟨r,vK⟩:∃r:Nat,c.a[t.a].a=r:=⟨c.a[t.a].a.toNat,by omega⟩
  rw[vK]at fq|-;have ig:t.b.length<=60:=jQ.e;have im:Yf t.b:=jQ.d;have q7:=Af Av jF;have uC:=hc.B _ (Ql jF);obtain⟨ar,eM⟩:∃ar:Nat,c.c[f].2=ar:=⟨c.c[f].2.toNat,by omega⟩
  unfold Ok at q7;rw[eM]at q7 uC;have harl:ar<=t.b.length:=by
   have:=H9 aA rfl;unfold bO g_ at this;rw[Int.toNat_natCast,Ao jF,eM,Int.toNat_natCast,List.length_replicate]at this;exact this
  have YM:ry c f t=match YA c.b c.c (f:Nat) ((List.range ar).map (W9 t.b)) (YG t.b t.b.length) (W9 t.b r)with
   |some q=>(q,0)
   |none=>(Y5,3):=by
   unfold ry g_;rw[Int.toNat_natCast,Ao jF,eM,Int.toNat_natCast,lj,vK,Int.toNat_natCast];rfl
  rw[YM]at hv;clear YM;generalize hl:t.b=l at*;have ql:r<l.length:=by omega
  have hIr:Is l (W9 l r) r:=Ez im ql;have hIa:∀i,i<ar->Is l (W9 l i) i:=fun i hi=>Ez im (by omega);have wV:(40<We (W9 l r)\/∃i,i<ar/\40<We (W9 l i))->dB c (f:Nat) Cc=(Y5,3):=fun h=>by
   rw[hv,zw (h.imp id fun⟨i,h1,h2⟩=>⟨W9 l i,List.mem_map.2 ⟨i,List.mem_range.2 h1,rfl⟩,h2⟩)]
  generalize hrhs:W9 l r=rhs at*;have hlenV:=hV.g;obtain⟨vc,rfl⟩:∃vc,V= .Ck vc l.length 6 true:=⟨_,by rw[hV.a,EN (by omega)]⟩
  have oz:∀q∈l,q.a=true->q.b=false:=by
   rw[<-hl];refine zy aA U fun q hq hm=>?_;rw[List.eq_of_mem_replicate (show q∈List.replicate _ C8.g from hq)]at hm;cases hm
  clear aA Xn WO XB W6 Xd;refine Lw U<|Sq<|Ew U<|Tf U<|Sk<|Es<|Lo (G4 U OZ) U<|Lw U<|Sq<|Ew U<|Sb ?_;refine Az fun sB YP=>?_;have cB:CL s.u sB (fun _=>False):=by rw[YP];exact cA.g (CL.z (own:=fun _=>False)) (fun _ h=>h) (fun _ h=> .inl h) (Qj _)
  have mB:nQ sB sA.a []:=by rw[YP];exact⟨Ax,Nat.lt_succ_self _⟩
  have nB:sB.a=s.a+3:=by rw[YP];show sA.a+1=_;omega
  have g3B:sB.b.g s.a=some (.J (CJ c) 28 false):=by rw[YP];exact(Ap (show s.a<sA.a by omega)).trans g3
  have g6B:sB.b.g (s.a+1)=some (.J zc 41 false):=by rw[YP];exact(Ap (show s.a+1<sA.a by omega)).trans g6
  clear YP;have lE:s.u.d=[]:=rfl;have CU:∀ {st:St},CL s.u st (fun _=>False)->st.d=[]:=fun h=>List.eq_nil_iff_forall_not_mem.2 fun y hy=>by
   rcases h.e y hy with h|⟨_,h⟩
   .rw[lE]at h;cases h
   .exact h
  have XV:∀y,y=sA.a->s.u.a<=y:=fun y hy=>by show s.a<=y;omega
  refine Ai (fun x:Nat×St×List (Nat×Nat)=>([(14,.int .i64 (x.1:Nat)),(13,.bW sA.a),(11,.int .i64 (r:Nat)),(10,.Ck vc l.length 6 true),(6,.J (s.a+1) 0),(3,.J s.a 0),(1,.int .i64 (f:Nat))],x.2.1)) (fun x=>ar-x.1)
   (fun x=>x.1<=ar/\CL sB x.2.1 (fun y=>y=sA.a)/\nQ x.2.1 sA.a x.2.2/\uI l x.2.2/\∀i,i<x.1->We (W9 l i)<=40)
   (0,sB,[]) ⟨Qo _,CL.A,mB,(fun p hp=>(by cases hp):uI l []),fun i h=>absurd h (Nat.not_lt_zero _)⟩ rfl (Ab (by repeat' constructor)) ?_
  rintro⟨i,st,M⟩ ⟨hi,cI,mI,kI,sI⟩;dsimp only at hi cI mI kI sI|-;have nI:=cI.d;have g3I:=(cI.b s.a (by omega) (by omega)).trans g3B;have g6I:=(cI.b (s.a+1) (by omega) (by omega)).trans g6B;have cI2:CL s.u st (fun _=>False):=cB.g cI (fun _ h=>h) (fun y h=> .inr (XV y h)) (Qj _);have q9:st.c<=st.a:=by rw[cI2.a];show s.a<=_;omega
  have g6I':=g6I;unfold zc at g6I';by_cases C5:i<ar
  .focus
    refine Sq<|Es<|Lv 3 U<|Lo (kl U g3I U) U<|qm U<|Lq (kv U q7) U<|Lw U ?_;refine Cd U (fun h8=>?_) (fun h8=>?_);refine Sk<|Sq<|Sb<|Es<|Lv 3 U ?_;rotate_left;exact absurd h8 (by omega)
   refine An U U (by kernel_rfl) U U U U (QJ im hV ig _ (W9 l i) (Qj _) (hIa i C5) mI kI fun s2 M2 c2 m2 k2 p2 l2=>?_);have n2:=c2.d;have g62:=(c2.b (s.a+1) (by omega) (by omega)).trans g6I';have zR:CL s.u s2 (fun _=>False):=cI2.g c2 (fun _ h=>h) (fun y h=> .inr (XV y h)) (Qj _);focus
    refine Lw U ?_;refine Cd U (fun h63=>?_) (fun h63=>?_);refine Es<|Lv 1 U<|Ln (kw U g62 U) U<|Lw U ?_;rotate_left;refine Sk<|Sr<|qm U ?_;refine Lq (ka (b:=1) U (by omega)) U ?_;refine Lw U ?_;rotate_left
   .refine Se ?_;have h40:40<We (W9 l i):=by
     have h:(40:Int)<(bQ (We (W9 l i)):Nat):=by assumption
     unfold bQ at h;omega
    exact AC ⟨.inl U,_,U,Za (wV (.inr ⟨i,C5,h40⟩)) U U (Ah.trans (if_pos U)) (BQ (by rw[zR.a];show s.a<=_;omega) (CU zR)) zR.a⟩
   .have h40:We (W9 l i)<=40:=by
     have h:¬(40:Int)<(bQ (We (W9 l i)):Nat):=by assumption
     unfold bQ at h;omega
    refine⟨(i+1,s2,M2),⟨C5,cI.g c2 (fun _ h=>h) (fun _ h=> .inl h) (by rw[cB.a];show s.a<=_;omega),m2,k2,fun j hj=>?_⟩,by show ar-(i+1)<ar-i;omega,rfl,rfl,Ab (by repeat' constructor)⟩;rcases Nat.lt_or_ge j i with h|h
    .exact sI j h
    .obtain rfl:j=i:=by omega
     exact h40
  .obtain rfl:i=ar:=by omega
   focus
    refine Sq<|Es<|Lv 3 U<|Lo (kl U g3I U) U<|qm U<|Lq (kv U q7) U<|Lw U ?_;refine Cb U (fun g8=>?_) (fun g8=>?_);have h8:=dT g8;exact absurd h8 (by omega);have h8:=dF g8;refine Sx<|A0 U<|Sq<|Es<|Lv 3 U ?_;rotate_left
   refine An U U (by kernel_rfl) U U U U (QJ im hV ig _ rhs (Qj _) hIr mI kI fun s2 M2 c2 m2 k2 p2 l2=>?_);have n2:=c2.d;have g62:=(c2.b (s.a+1) (by omega) (by omega)).trans g6I';have g32:=(c2.b s.a (by omega) (by omega)).trans g3I;have zR:CL s.u s2 (fun _=>False):=cI2.g c2 (fun _ h=>h) (fun y h=> .inr (XV y h)) (Qj _);focus
    refine Lw U ?_;refine Cd U (fun h63=>?_) (fun h63=>?_);refine Es<|Lv 1 U<|Ln (kw U g62 U) U<|Lw U ?_;rotate_left;refine Sk ?_;rotate_left
   .refine Se ?_;have h40:40<We rhs:=by
     have h:(40:Int)<(bQ (We rhs):Nat):=by assumption
     unfold bQ at h;omega
    exact AC ⟨.inl U,_,U,Za (wV (.inl h40)) U U (Ah.trans (if_pos U)) (BQ (by rw[zR.a];show s.a<=_;omega) (CU zR)) zR.a⟩
   have h40:We rhs<=40:=by
    have h:¬(40:Int)<(bQ (We rhs):Nat):=by assumption
    unfold bQ at h;omega
   refine Cu.sub (l':=[(11,.int .i64 (r:Nat)),(10,.Ck vc l.length 6 true),(6,.J (s.a+1) 0),(3,.J s.a 0),(1,.int .i64 (f:Nat))]) ?_ (Ab (by repeat' constructor));clear mI kI m2 k2 p2 l2 g3I g6I' wV q9;refine Es<|qm U<|Lo (G4 U OZ) U<|Lv 1 U<|Lo (BR U U U) U<|Lw U ?_;refine Cu.sub (l':=[(15,.J (s2.a+1) 0),(11,.int .i64 (r:Nat)),(10,.Ck vc l.length 6 true),(6,.J (s.a+1) 0),(3,.J s.a 0),(1,.int .i64 (f:Nat))]) ?_ (Ab (by repeat' constructor));refine Az fun sD ix=>?_;have cD:CL s2 sD (fun _=>False):=by rw[ix];exact(CL.z (own:=fun _=>False)).g (CL.z (own:=fun _=>False)) (fun _ h=>h) (fun _ h=> .inl h) (by rw[zR.a];show s.a<=_;omega)
   have mD:aN sD s2.a []:=by rw[ix];exact⟨(Ap (show s2.a<s2.a+1 by omega)).trans Ax,by show s2.a<s2.a+1+1;omega⟩
   have rD:uJ sD (s2.a+1) (.Ck vc l.length 6 true) s2.a:=by rw[ix];exact⟨Ax,Nat.lt_succ_self _⟩
   have nD:sD.a=s2.a+2:=by rw[ix];rfl
   clear ix;have cD2:CL s.u sD (fun _=>False):=zR.g cD (fun _ h=>h) (fun _ h=> .inl h) (Qj _);have hbD:sD.c<=sD.a:=by rw[cD2.a];show s.a<=_;omega
   have g3D:=(cD.b s.a (by omega) id).trans g32;have g6D:=(cD.b (s.a+1) (by omega) id).trans g62;clear cD g62 g32 zR c2 cB mB g3B g6B g6I cI2 cI;obtain⟨a1,a2,a3,a4,a5,a6,a7⟩:=AU (st:=sD) (z:=zc) (cs:=[.int .i64 (f:Nat),.Ca,.int .i64 0,.int .i64 0,.Ca,.int .i64 0]) (T:=41);obtain⟨b1,b2⟩:=AP (st:=sD) (z:=zc) (cs:=[.int .i64 (f:Nat),.Ca,.int .i64 0,.int .i64 0,.Ca,.int .i64 0]) (T:=41) (own:=fun _=>False) hbD;unfold zc at a1 a2 a4 b1 b2;refine Es<|Lv 2 U<|Lo (kz U) U<|Ln (kw U a1 U) U<|Ld<|Sq<|Ew U<|Sb ?_;refine Az fun sE oW=>?_;have cE:CL sD sE (fun _=>False):=by rw[oW];exact b1
   have oE:∀d,d<sD.a->sE.b.g d=sD.b.g d:=fun d hd=>by rw[oW];exact a4 d hd
   have gE:sE.b.g sD.a=some (.J [.int .i64 (f:Nat),.Ca,.int .i64 0,.int .i64 0,.Ca,.int .i64 0] 41 false):=by rw[oW];exact a2
   have nE:sE.a=sD.a+1:=by rw[oW];exact a7
   clear oW a1 a2 a3 a4 a5 a6 a7 b1 b2;have cE2:CL s.u sE (fun _=>False):=cD2.g cE (fun _ h=>h) (fun _ h=> .inl h) (Qj _);have bE:sE.c=s.a:=cE2.a;have g3E:=(oE s.a (by omega)).trans g3D;have g6E:=(oE (s.a+1) (by omega)).trans g6D;have mE:aN sE s2.a []:=⟨(oE _ mD.2).trans mD.1,by omega⟩
   have rE:uJ sE (s2.a+1) (.Ck vc l.length 6 true) s2.a:=⟨(oE _ rD.2).trans rD.1,by omega⟩
   obtain⟨ts,fT⟩:∃ts,ts=(List.range i).map (W9 l):=⟨_,rfl⟩
   have htl:ts.length=i:=by rw[fT,Qn,List.length_range]
   have hti:∀j (h:j<ts.length),Is l ts[j] j:=fun j h=>by
    subst fT;rw[List.getElem_map,List.getElem_range];exact hIa j (by omega)
   rw[<-fT]at hv;have rz:∀y,y=s2.a\/y=sD.a->s.u.a<=y:=fun y hy=>by show s.a<=y;omega
   refine Ai (fun x:Nat×AV×St=>([(17,.int .i64 (x.1:Nat)),(16,.J sD.a 0),(15,.J (s2.a+1) 0),(11,.int .i64 (r:Nat)),(10,.Ck vc l.length 6 true),(6,.J (s.a+1) 0),(3,.J s.a 0),(1,.int .i64 (f:Nat))],x.2.2)) (fun x=>i-x.1)
    (fun x=>x.1<=i/\CL sE x.2.2 (fun y=>y=s2.a\/y=sD.a)/\aN x.2.2 s2.a (Cf (ts.take x.1) []).2/\x.2.2.b.g sD.a=some (.J [.int .i64 (f:Nat),x.2.1,.int .i64 0,.int .i64 0,.Ca,.int .i64 0] 41 false)/\a_ x.2.2 39 3 x.2.1 ((Cf (ts.take x.1) []).1.flatMap Cm) x.1/\∀y,CB y x.2.1=true->sE.a<=y)
    (0,.Ca,sE) ⟨Qo _,CL.A,by rw[List.take_zero,Cf];exact mE,gE,by rw[List.take_zero,Cf];exact a_.nil _ _ _,fun y h=>by cases h⟩ rfl (Ab (by repeat' constructor)) ?_
   rintro⟨j,pv,s3⟩ ⟨hj,c3,m3,g3r,rQ,o3⟩;dsimp only at hj c3 m3 g3r rQ o3|-;have n3:=c3.d;have g33:=(c3.b s.a (by omega) (by omega)).trans g3E;have g63:=(c3.b (s.a+1) (by omega) (by omega)).trans g6E;have r3:uJ s3 (s2.a+1) (.Ck vc l.length 6 true) s2.a:=⟨(c3.b _ rE.2 (by omega)).trans rE.1,by have:=rE.2;omega⟩
   have qI:s3.c<=s3.a:=by rw[c3.a,bE];omega
   by_cases hlj:j<i
   .have hjt:j<ts.length:=by omega
    have g3k:=fun(_:True)=>g3r;clear g3r;focus
     refine Sq<|Es<|Lv 3 U<|Lo (kl U g33 U) U<|qm U<|Lq (kv U q7) U<|Lw U ?_;refine Cd U (fun h64=>?_) (fun h64=>?_);refine Sk<|Sq<|Sb<|AK (by kernel_rfl)<|Nv 1 U ?_;rotate_left;exact absurd h64 (by omega)
    have gk:=g3k trivial;clear g3k;refine Dl U I0 Gg U gk U (IA rQ) (EU rQ) U (.inl U) U U<|Nv 2 U ?_;refine EE (by kernel_rfl) U U U (Mb im hV ig _ ts[j] (Qj _) (s:=s3.B s3.b) (nb:=s2.a+1) (mb:=s2.a) (hti j hjt) ⟨r3.1,r3.2⟩ m3
     (R:=fun v s2'=>v= .O (Cm (CC ts[j] (Cf (ts.take j) []).2).1)/\CL (s3.B s3.b) s2' (fun x=>x=s2.a)/\aN s2' s2.a (CC ts[j] (Cf (ts.take j) []).2).2/\Ch (s3.B s3.b) s2')
     (RP:=fun _ _=>False)
     (fun s2' c1 m1 l1=>⟨rfl,c1,m1,l1 (Qj _)⟩)) ?_ rfl (.inl rfl) rfl rfl ?_ (fun _ _ h=>h.elim)
    .exact J6 (by kernel_rfl)
    .rintro v s4 ⟨rfl,c1,m1,l1⟩;obtain⟨p1,p2,p3,p4,p5⟩:=Gv c1 l1 qI;have g62:=(c1.b sD.a (show sD.a<s3.a by omega) (by omega)).trans gk;refine⟨p1,p2,fun e he=>?_,fun dA cS=>?_⟩
     .rw[Qp.1 he];exact .inr (.inr ⟨_,_,_,g62,U⟩)
     have n5:(s3.A s4).a=s4.a:=rfl;have hm5:=(p5 s2.a m1.2).trans m1.1;refine Cz.named fun s5 hs5=>?_;rw[<-hs5]at p3 p4 n5 hm5;clear hs5;have hS5:aN s5 s2.a (CC ts[j] (Cf (ts.take j) []).2).2:=⟨hm5,by rw[n5];exact m1.2⟩
     have zS:=(p3.b sD.a (by omega) (by omega)).trans gk;have b5:s5.c<=s5.a:=by rw[p3.a];omega
     have gr5:a_ s5 39 3 pv ((Cf (ts.take j) []).1.flatMap Cm) j:=rQ.CQ p3.d fun y hy=>p3.b y (rQ.own hy) (by have:=o3 y hy;omega);have et:=Js hjt [];have ek:=A4 (CC ts[j] (Cf (ts.take j) []).2).1;rw[ek];generalize hk:(CC ts[j] (Cf (ts.take j) []).2).1=k at*;refine AI U nr Ks qe U U U (.inl U) U U ?_;refine ED (new:=[.int .i64 k.op,.int .i64 k.n,CI k.g]) gr5 b5 U (by decide) (A3 (by omega) (by decide)) (A3 (by omega) (by decide)) U U U U nr Ks VA qe (by kernel_rfl) (by kernel_rfl) U U (by kernel_rfl) (by rw[List.all_cons,cS.all U (by kernel_rfl)];kernel_rfl) (.inl U) U U fun v6 s6 nl6 g6' o6 c6 l6 Y8=>?_;refine Nv 1 U ?_;have fU:v6.g=[v6]/\v6.u=false:=by rcases g6' with⟨rfl,_⟩|⟨_,rfl,_⟩<;>exact⟨rfl,rfl⟩
     have Xo:¬CB sD.a pv=true:=fun h=>by have:=o3 _ h;omega
     have sV:CB sD.a pv=false:=by simpa using Xo
     have n6:=c6.d;have g66:=(c6.b sD.a (by omega) Xo).trans zS;refine B8 (by omega) U Gg U U g66 (by rw[fU.1];rfl) fU.2 (by rw[fU.1];rfl) (Y8 sD.a (by omega) sV _ (AH (by rw[List.all_cons,cS.all U (by kernel_rfl)];kernel_rfl))) (by kernel_rfl) (.inl U) U U ?_;refine Cz.done<|Sr<|qm U ?_;refine Lq (ka (b:=1) U (by omega)) U ?_;refine Lw U ?_;have hbE:sE.c<=sE.a:=by rw[bE];omega
     refine⟨(j+1,v6,bj s6 sD.a (some (.J [.int .i64 (f:Nat),v6,.int .i64 0,.int .i64 0,.Ca,.int .i64 0] 41 false))),⟨hlj,?_,⟨(VY.trans (if_neg (by omega))).trans ?_,?_⟩,VY.trans (if_pos U),?_,fun y hy=>by have:=o6 y hy;omega⟩,by show i-(j+1)<i-j;omega,rfl,rfl,Ab (by repeat' constructor)⟩
     .exact((c3.g p3 (own:=fun y=>y=s2.a\/y=sD.a) (fun _ h=>h) (fun y h=> .inl (.inl h)) hbE).g c6 (fun _ h=>h) (fun y h=> .inr (o3 y h)) hbE).g De (fun _ h=>h) (fun y h=> .inl (.inr h)) hbE
     .show s6.b.g s2.a=some (.Y (ZH 0 (Cf (ts.take (j+1)) []).2) (Cf (ts.take (j+1)) []).2.length);rw[et];exact(c6.b s2.a hS5.2 fun h=>by have:=o3 _ h;omega).trans hS5.1
     .show s2.a<s6.a;have:=hS5.2;omega
     .show a_ (bj s6 _ _) 39 3 v6 ((Cf (ts.take (j+1)) []).1.flatMap Cm) (j+1);rw[et,List.flatMap_append,List.flatMap_cons,List.flatMap_nil,List.append_nil,ek];exact g6'.CQ (Qj _) fun y hy=>VY.trans (if_neg fun e=>by have:=o6 y hy;omega)
   .obtain rfl:j=i:=by omega
    rw[<-htl,List.take_length]at m3 rQ;generalize hnP:(Cf ts []).2=nmP at*;refine Sq<|Es<|Lv 3 U<|Lo (kl U g33 U) U<|qm U<|Lq (kv U q7) U<|Lw U<|Ib U g8<|Sx<|A0 U<|Sq<|Ew U<|Sb ?_;refine Ai (fun x:Nat×St×List Nat=>([(18,.int .i64 (x.1:Nat)),(16,.J sD.a 0),(15,.J (s2.a+1) 0),(11,.int .i64 (r:Nat)),(10,.Ck vc l.length 6 true),(6,.J (s.a+1) 0),(3,.J s.a 0)],x.2.1)) (fun x=>l.length-x.1)
     (fun x=>x.1<=l.length/\x.2.2=(YG l x.1).foldl X6 nmP/\CL s3 x.2.1 (fun y=>y=s2.a)/\aN x.2.1 s2.a x.2.2)
     (0,s3,nmP) ⟨Qo _,rfl,CL.A,m3⟩ rfl (Ab (by repeat' constructor)) ?_
    rintro⟨k,s4,nm⟩ ⟨hk,lU,c4,m4⟩;dsimp only at hk lU c4 m4|-;have n4:=c4.d;have r4:uJ s4 (s2.a+1) (.Ck vc l.length 6 true) s2.a:=⟨(c4.b _ r3.2 (by omega)).trans r3.1,by have:=r3.2;omega⟩
    by_cases bJ:k<l.length
    .obtain⟨a,cs,hka,ru⟩:=hV.u bJ;have ef:=Ly bJ;focus
      refine Sq<|Ew U ?_;refine Cd U (fun h64=>?_) (fun h64=>?_);refine Sk<|Sq<|Sb<|Es<|Lv 2 U<|Lq (kv U ru) U<|Lw U ?_;refine Cb U (fun zS=>?_) (fun zS=>?_);refine Sr<|Lv 2 U ?_;rotate_left;refine Sk<|Sr<|qm U ?_;refine Lq (ka (b:=1) U (by omega)) U ?_;refine Lw U ?_;rotate_left;exact absurd h64 (by omega)
     .rw[if_pos zS]at ef;have Z6:l[k].c=true:=by assumption
      have hmd:=(im k bJ).b Z6;have hI:Is l (.O k) k:=by
       rw[Is];exact⟨U,bJ,(im k bJ).op.2 ⟨oz _ (Ql bJ) hmd,.inr Z6⟩⟩
      refine An U U (by kernel_rfl) U U U U (Mb im hV ig _ (.O k) (Qj _) hI r4 m4 fun s5 c5 m5 l5=>?_);rw[CC]at m5;refine Ld<|Sr<|qm U ?_;refine Lq (ka (b:=1) U (by omega)) U ?_;refine Lw U ?_;refine⟨(k+1,s5,X6 nm k),⟨bJ,?_,c4.g c5 (fun _ h=>h) (fun _ h=> .inl h) (by omega),m5⟩,by show l.length-(k+1)<l.length-k;omega,rfl,rfl,Ab (by repeat' constructor)⟩;rw[ef,List.foldl_append,<-lU];rfl
     .rw[if_neg (by simp[*])]at ef;rw[List.append_nil]at ef;exact⟨(k+1,s4,nm),⟨bJ,by rw[ef];exact lU,c4,m4⟩,by show l.length-(k+1)<l.length-k;omega,U,U,Ab (by repeat' constructor)⟩
    .obtain rfl:k=l.length:=by omega
     have g64:=(c4.b (s.a+1) (by omega) (by omega)).trans g63;have g34:=(c4.b s.a (by omega) (by omega)).trans g33;have gr4:=(c4.b sD.a (by omega) (by omega)).trans g3r;have grP:a_ s4 39 3 pv ((Cf ts []).1.flatMap Cm) ts.length:=rQ.CQ n4 fun y hy=>c4.b y (rQ.own hy) (by have:=o3 y hy;omega);focus
      refine Sq<|Ew U ?_;refine Cb U (fun zS=>?_) (fun zS=>?_);have h65:=dT zS;exact absurd h65 (by omega);have h65:=dF zS;refine Sx<|A0 U<|Es<|Lv 2 U ?_;rotate_left
     refine An U U (by kernel_rfl) U U U U (Mb im hV ig _ rhs (Qj _) hIr r4 m4 fun s5 c5 m5 l5=>?_);have n5:=c5.d;have zS:=(c5.b (s.a+1) (by omega) (by omega)).trans g64;have g35:=(c5.b s.a (by omega) (by omega)).trans g34;have gr5:=(c5.b sD.a (by omega) (by omega)).trans gr4;have r5:uJ s5 (s2.a+1) (.Ck vc l.length 6 true) s2.a:=⟨(c5.b _ r4.2 (by omega)).trans r4.1,by have:=r4.2;omega⟩
     have grP5:a_ s5 39 3 pv ((Cf ts []).1.flatMap Cm) ts.length:=grP.CQ n5 fun y hy=>c5.b y (grP.own hy) (by have:=o3 y hy;omega);have cS5:CL s.u s5 (fun _=>False):=((cE2.g c3 (fun _ h=>h) (fun y h=> .inr (rz y h)) (Qj _)).g c4 (fun _ h=>h) (fun y h=> .inr (rz y (.inl h))) (Qj _)).g c5 (fun _ h=>h) (fun y h=> .inr (rz y (.inl h))) (Qj _);have ek:=A4 (CC rhs nm).1;rw[ek];have rJ:=J8 im rhs r nm hIr;have hslP:=NX im ts [] hti;generalize hkk:(CC rhs nm).1=kk at*;have Gk:=Gk hf.b hf.e rJ;rw[ek]at Gk;unfold Wn at Gk;refine Lv 1 U<|Ln (kw U gr5 U) U<|Ld<|Es<|Lv 3 U ?_;refine CA.named fun s6 zj=>?_;have gr6:s6.b.g sD.a=some (.J [.int .i64 (f:Nat),pv,.int .i64 kk.op,.int .i64 kk.n,CI kk.g,.int .i64 0] 41 false):=by rw[zj];exact Ah.trans (if_pos rfl)
     have o6:∀y,y≠sD.a->s6.b.g y=s5.b.g y:=fun y hy=>by rw[zj];exact Ah.trans (if_neg hy)
     have c6:CL s5 s6 (fun y=>y=sD.a):=by rw[zj];exact CL.B
     have n6:s6.a=s5.a:=by rw[zj];rfl
     clear zj;have r6:=(o6 _ (by omega)).trans r5.1;have m6:=(o6 s2.a (by omega)).trans m5.1;refine Lo (kl U r6 U) U<|Lo (Gf U U U U OZ U m6) U ?_;rw[F5];refine Lv 1 U<|Ln (kw U gr6 U) U<|Ld<|Sq<|Es<|Lv 1 U ?_;refine CA.named fun s7 hs7=>?_;have gr7:s7.b.g sD.a=some (.J [.int .i64 (f:Nat),pv,.int .i64 kk.op,.int .i64 kk.n,CI kk.g,.int .i64 ((CC rhs nm).2.length:Nat)] 41 false):=by rw[hs7];exact Ah.trans (if_pos rfl)
     have o7:∀y,y≠sD.a->s7.b.g y=s6.b.g y:=fun y hy=>by rw[hs7];exact Ah.trans (if_neg hy)
     have c7:CL s6 s7 (fun y=>y=sD.a):=by rw[hs7];exact CL.B
     have n7:s7.a=s6.a:=by rw[hs7];rfl
     clear hs7;have g37:=(o7 s.a (by omega)).trans ((o6 s.a (by omega)).trans g35);have g67:=(o7 (s.a+1) (by omega)).trans ((o6 (s.a+1) (by omega)).trans zS);have cS7:CL s.u s7 (fun _=>False):=(cS5.g c6 (fun _ h=>h) (fun y h=> .inr (rz y (.inr h))) (Qj _)).g c7 (fun _ h=>h) (fun y h=> .inr (rz y (.inr h))) (Qj _);have gr7P:a_ s7 39 3 pv ((Cf ts []).1.flatMap Cm) ts.length:=grP5.CQ (by omega) fun y hy=>by
      have:=o3 y hy;exact(o7 y (by omega)).trans (o6 y (by omega))
     have eu:¬((CC rhs nm).2.length<=20/\Xt c.b c.c kk=true/\(Cf ts []).1.all (Xt c.b c.c)=true)->dB c (f:Nat) Cc=(Y5,3):=fun h=>by
      rw[hv];unfold YA;rw[hnP,<-lU,hkk,if_neg h]
     have hyes:((CC rhs nm).2.length<=20/\Xt c.b c.c kk=true/\(Cf ts []).1.all (Xt c.b c.c)=true)->dB c (f:Nat) Cc=(⟨(f:Nat),(Cf ts []).1,kk,((CC rhs nm).2.length:Nat)⟩,0):=fun h=>by
      rw[hv];unfold YA;rw[hnP,<-lU,hkk,if_pos h]
     clear hv;have ua:=CU cS7;have hb7:s7.c<=s.a+1:=by rw[cS7.a];exact Nat.le_succ _
     unfold zc at g67;focus
      refine Lo (kl U gr7 U) U<|Lv 2 U ?_;refine Bd U (fun h68=>?_) (fun h68=>?_);refine Lw U<|Tt U ?_;rotate_left;refine Lv 1 U<|Lg U U (kL U g37 U)<|Lv 1 U<|Lg U U (kL U gr7 U) ?_;refine Lg U U (kc U (Gk))<|Lw U ?_;refine Cn U (fun h69=>?_) (fun h69=>?_);rotate_left;refine Sk<|Sq<|Ew U<|Sb ?_;rotate_left
     .refine Es ?_;refine Lv 1 U<|Ln (kw U g67 U) U<|Lw U<|Se ?_;exact AC ⟨.inl U,_,rfl,Za (eu fun h=>by omega) U U (Ah.trans (if_pos U)) (BQ hb7 ua) cS7.a⟩
     .have h2:Xt c.b c.c kk=false:=by assumption
      rw[h2];refine Es<|Lv 1 U<|Ln (kw U g67 U) U<|Lw U<|Se ?_;exact AC ⟨.inl U,_,rfl,Za (eu fun h=>by rw[h2]at h;exact absurd h.2.1 (by simp)) U U (Ah.trans (if_pos U)) (BQ hb7 ua) cS7.a⟩
     have rj:(CC rhs nm).2.length<=20:=by
      have h:¬(20:Int)<((CC rhs nm).2.length:Nat):=by assumption
      omega
     have Ya:Xt c.b c.c kk=true:=by assumption
     have Y1:(Cf ts []).1.length=ts.length:=BU ts [];rw[<-Y1]at gr7P;have hlp:=gr7P.len;refine Ai (fun x:Nat=>([(19,.int .i64 (x:Nat)),(16,.J sD.a 0),(6,.J (s.a+1) 0),(3,.J s.a 0)],s7)) (fun x=>(Cf ts []).1.length-x)
      (fun x=>x<=(Cf ts []).1.length/\∀k (h:k<(Cf ts []).1.length),k<x->Xt c.b c.c (Cf ts []).1[k]=true) 0 ⟨Qo _,fun k _ h=>absurd h (Nat.not_lt_zero _)⟩ rfl (Ab (by repeat' constructor)) ?_
     rintro q ⟨hq,Zc⟩;dsimp only at hq Zc|-;by_cases hlq:q<(Cf ts []).1.length
     .have hsq:=hslP _ (Ql hlq);have eq:=A4 (Cf ts []).1[q];have Gk:=Go.Proofs.YtpihdbhocgcbpaaGreatDoor.Gk hf.b hf.e hsq;obtain⟨b,hve,eN,vg,hixp⟩:=gr7P.at hlq;have ldq:=load_tm hlq vg;rw[eq]at Gk ldq;unfold Wn at Gk;subst hve;focus
       refine Sq<|Es<|Lv 2 U<|Lo (kl U gr7 U) U<|Lw U ?_;refine Cd U (fun h70=>?_) (fun h70=>?_);refine Sk<|Sq<|Sb<|Ad (by kernel_rfl)<|Nv 1 U<|NM U g37 U (.inl U) U<|Nv 1 U<|Nm U gr7 U (.inl U) U<|Nv 1 U ?_;refine Nq (kM U (by omega)) U ?_;refine B9 U U ldq U (.inl U) U U ?_;refine Na (kC U (Gk)) (.inl U) U<|Nw U ?_;refine Cn U (fun h71=>?_) (fun h71=>?_);refine Es<|Lv 1 U<|Ln (kw U g67 U) U<|Lw U ?_;rotate_left;refine Sk<|Sr<|qm U ?_;refine Lq (ka (b:=1) U (by omega)) U ?_;refine Lw U ?_;rotate_left;exact absurd h70 (by omega)
      .have h2:Xt c.b c.c (Cf ts []).1[q]=false:=by assumption
       refine Se ?_;exact AC ⟨.inl U,_,rfl,Za (eu fun h=>by
        have:=List.all_eq_true.1 h.2.2 _ (Ql hlq);rw[h2]at this;cases this) rfl rfl (Ah.trans (if_pos rfl)) (BQ hb7 ua) cS7.a⟩
      .have h2:Xt c.b c.c (Cf ts []).1[q]=true:=by assumption
       refine⟨q+1,⟨hlq,fun k hk hkq=>?_⟩,by show(Cf ts []).1.length-(q+1)<(Cf ts []).1.length-q;omega,rfl,rfl,Ab (by repeat' constructor)⟩;rcases Nat.lt_or_ge k q with h|h
       .exact Zc k hk h
       .obtain rfl:k=q:=by omega
        exact h2
     .obtain rfl:q=(Cf ts []).1.length:=by omega
      have hw:=hyes ⟨rj,Ya,List.all_eq_true.2 fun u hu=>by
       obtain⟨k,hk,rfl⟩:=List.mem_iff_getElem.1 hu;exact Zc k hk hk⟩
      have hwA:ZU c (f:Nat) Cc= .Y [.O (W3 ⟨(f:Nat),(Cf ts []).1,kk,((CC rhs nm).2.length:Nat)⟩),.int .i64 0]:=by unfold ZU;rw[hw]
      rw[hwA];focus
       refine Sq<|Es<|Lv 2 U<|Lo (kl U gr7 U) U<|Lq (kn U hlp) U<|Lw U ?_;refine Cd U (fun h70=>?_) (fun h70=>?_);exact absurd h70 (by omega);refine Sx<|A0 U<|Es<|Lo (kL U gr7 U) U<|Ln (kw U g67 U) U<|Lw U ?_;rotate_left
      refine Se ?_;exact AC ⟨.inl U,_,rfl,TY (q:=⟨(f:Nat),(Cf ts []).1,kk,((CC rhs nm).2.length:Nat)⟩) (pv:=pv) U U (Ah.trans (if_pos U)) (BQ hb7 ua) cS7.a (gr7P.CQ (Qj _) fun y hy=>Ah.trans (if_neg (by have:=o3 y hy;omega))) (fun y hy=>by have:=o3 y hy;omega)⟩
end
theorem ub:rk Y5:=⟨Qo _,(fun _ h=>by cases h),.mk (Qo _) fun _ h=>by cases h⟩
theorem Tw {c:Cj} {f:Int} {Cc:List Int} (hf:r_ c):rk (dB c f Cc).1:=by
 unfold dB;by_cases h:X5 c=true/\0<=f/\f<c.c.length
 .rw[if_pos h];cases hb:WI c with
  |none=>exact ub
  |some S=>
   dsimp only;have hc:ZT c:=⟨hf,h.1⟩
   obtain⟨n,rfl⟩:∃n:Nat,f=n:=⟨f.toNat,by omega⟩
   have jF:n<c.c.length:=by omega
   rw[Int.toNat_natCast];have hS:=G1 hb;have WO:=I2 (Cc:=Cc) hc hS jF;obtain⟨res,aA⟩:=QP hc hS _ _ WO (Qj _);rw[Pu aA];cases res with
   |J e=>exact ub
   |O t=>
    dsimp only;obtain⟨jQ,Xn⟩:=TN hc hS aA rfl WO;have fp:=jQ.b;have XB:=HO hc fp Xn;have lj:Y6 c t.a=c.a[t.a]:=B2 fp;rw[lj]at XB;have W6:=hc.g fp;rw[Ob XB]at W6;simp only[Qf]at W6;have ha:=VW.1 W6.2.2.2;have h0:0<=oA S t.a:=by rw[jQ.a];exact Int.natCast_nonneg _
    have Xd:=hS.a t.a fp h0;rw[lj,jQ.a]at Xd;unfold XO at Xd;rw[if_pos (.inr XB)]at Xd;have fq:=dT Xd;have uC:=hc.B _ (Ql jF);have harl:(g_ c.c (n:Nat)).toNat<=t.b.length:=by
     have:=H9 aA rfl;unfold bO at this;rw[List.length_replicate]at this;exact this
    have har4:(g_ c.c (n:Nat)).toNat<=4:=by
     unfold g_;rw[Int.toNat_natCast,Ao jF];omega
    unfold ry YA;split
    .next q hq=>
     split at hq
     .cases hq;refine⟨?_,NX jQ.d _ _ fun j hj=>?_,J8 jQ.d _ _ _ (Ez jQ.d ?_)⟩
      .rw[BU,Qn,List.length_range];omega
      .rw[Qn,List.length_range]at hj;rw[List.getElem_map,List.getElem_range];exact Ez jQ.d (by omega)
      .rw[lj];omega
     .cases hq
    .exact ub
 .rw[if_neg h];exact ub
section
variable {s : St} {c : Cj} {f : Int} {Cc : List Int}
theorem way_run (hf:r_ c) (pX:Cc.length<=4000):VX (EK W1) 16 [.O (CJ c),.int .i64 f,Cq CN 1 Cc] s (fun v s'=>v=ZU c f Cc/\s'=s) fun _ _=>False:=by
 by_cases h:X5 c=true/\0<=f/\f<c.c.length
 .obtain⟨n,rfl⟩:∃n:Nat,f=n:=⟨f.toNat,by omega⟩
  have hc:ZT c:=⟨hf,h.1⟩
  cases hb:WI c with
  |none=>exact RD hc (by omega) hb
  |some S=>exact zo hc (by omega) hb pX
 .exact way_arg hf h
theorem ref_run (hf:r_ c) (pX:Cc.length<=4000):VX (EK W1) 17 [.O (CJ c),.int .i64 f,Cq CN 1 Cc] s (fun v s'=>v=ZU c f Cc/\s'=s) fun _ _=>False:=by
 by_cases h:X5 c=true/\0<=f/\f<c.c.length
 .obtain⟨n,rfl⟩:∃n:Nat,f=n:=⟨f.toNat,by omega⟩
  have hc:ZT c:=⟨hf,h.1⟩
  cases hb:WI c with
  |none=>exact Si hc (by omega) hb
  |some S=>exact zz hc (by omega) hb pX
 .exact ref_arg hf h
end
theorem ways_to (c:Cj) (f:Int) (Cc:List Int):Co (EK W1) 4 [.O (CJ c),.int .i64 f,Cq CN 1 Cc] S0 (.bool true):=by
 refine As U ?_;have stop_16:True:=trivial;have stop_17:True:=trivial;cases hs:XI c with
 |false=>
  focus
   refine Eh U<|Sq<|Es<|Ls 1 U ?_;refine Lo (kc U (yc)) U<|Lv 2 U ?_;refine Bn U (fun h1=>?_) (fun h1=>?_);refine Lw U<|Tt U<|Es ?_;refine Lo (kc U (Lp)) U<|Lw U ?_;refine Se (Er U ?_);exact Aa U;refine Lw U ?_;refine Cd U (fun h2=>?_) (fun h2=>?_);refine Es ?_;refine Lo (kc U (Lp)) U<|Lw U ?_;refine Se (Er U ?_);exact Aa U;refine Sk<|Es<|Ls 3 U ?_;rotate_left
  exact absurd h1 (by rw[hs];decide)
 |true=>
  have hf:=fits_of hs;by_cases pX:Cc.length<=100
  .have rJ:=Tw (f:=f) (Cc:=Cc) hf;have z5:=fun s=>way_run (s:=s) (f:=f) (Cc:=Cc) hf (by omega);have z7:=fun s=>ref_run (s:=s) (f:=f) (Cc:=Cc) hf (by omega);unfold ZU at z5 z7;generalize (dB c f Cc).1=q at*;generalize (dB c f Cc).2=e at*;have Rk:=Rk rJ;unfold W3 at Rk z5 z7;focus
    refine Eh U<|Sq<|Es<|Ls 1 U ?_;refine Lo (kc U (yc)) U<|Lv 2 U ?_;refine Bn U (fun h1=>?_) (fun h1=>?_);refine Lw U<|Tt U<|Es ?_;refine Lo (kc U (Lp)) U<|Lw U ?_;refine Se (Er U ?_);exact Aa U;refine Lw U ?_;refine Cd U (fun h2=>?_) (fun h2=>?_);exact absurd h2 (by omega);refine Sk<|Es<|Ls 3 U ?_;rotate_left
   refine An U U (by kernel_rfl) U U U U ((z5 _).mono (fun v s' hq=>?_) (fun _ _ h=>h.elim));obtain⟨rfl,rfl⟩:=hq;refine Lx U<|Es<|Ls 3 U ?_;refine An U U (by kernel_rfl) U U U U ((z7 _).mono (fun v s' hq=>?_) (fun _ _ h=>h.elim));obtain⟨rfl,rfl⟩:=hq;focus
    refine Lx U<|Es<|Lv 4 U ?_;refine Bd U (fun h3=>?_) (fun h3=>?_);refine Ls 2 U ?_;refine Lg U U (kc U (Rk))<|Lv 2 U ?_;refine Lg U U (kc U (Lp))<|Lw U ?_;refine Se (Er U ?_);exact Aa U;exact absurd h3 (by omega)
  .focus
    refine Eh U<|Sq<|Es<|Ls 1 U ?_;refine Lo (kc U (yc)) U<|Lv 2 U ?_;refine Bn U (fun h1=>?_) (fun h1=>?_);refine Lw U<|Tt U<|Es ?_;refine Lo (kc U (Lp)) U<|Lw U ?_;refine Se (Er U ?_);exact Aa U;refine Lw U ?_;refine Cd U (fun h2=>?_) (fun h2=>?_);refine Es ?_;refine Lo (kc U (Lp)) U<|Lw U ?_;refine Se (Er U ?_);exact Aa U;exact absurd h2 (by omega)
end Go.Proofs.YtpihdbhocgcbpaaGreatDoor.Wy
open Go Am
namespace Am
variable {xs:Array Value} {b:Bool} {K:FuncId->List AV->Option AV} {F:FuncId->Nat} {args:List AV} {P:Program} {w:World}
theorem V8 {nt nf:Nat} {gl:pZ} (hp:Zd P nt nf) (hK:bf P gl K) {f:FuncId} (hmf:K f args=none) (h:Co (np P nt nf F K gl) f args S0 (.bool b))
 (hg:GlobS gl (Cx.memory w)) (ha:Wx (Cx.memory w) args xs.toList):Calls P f xs w fun e w'=>e= .returned (.bool b)/\Go.RowKit.Below w.heap.size w w':=by
 have Xo:∀b o,¬S0.b.g b=some o:=fun b o hb=>by rw[show S0.b= .J from rfl,AS]at hb;cases hb
 obtain⟨N,h⟩:=h;have hc:=JV (PU (F:=F) (K:=K) (gl:=gl) hp) (Ru hp) (Ow hK) (n:=N) (f:=f) (args:=args) (v:= .bool b) hmf (h N (Qj _)) (C:=Cx.memory w) (w:=w) (xs:=xs) hg ha (U4 w);intro cs;obtain⟨e,w',fr,⟨C2,x,ZK,t,hv⟩,h2,h3,h4⟩:=hc cs;refine⟨e,w',fr,⟨?_,⟨t.k.2.1,t.k.1,t.k.2.2,t.d,fun k hk=>t.z k hk fun b o hb=>absurd hb (Xo b o)⟩⟩,h2,h3,h4⟩;cases hv;exact ZK
end Am
namespace Go.Proofs.YtpihdbhocgcbpaaGreatDoor.Wy
theorem UZ:∀(g:Nat) (cs:List AV),(fun _:Nat=>(none:Option (List AV))) g=some cs->cs.all (Cr 40)=true:=fun _ _ h=>by cases h
theorem wall1 (h:Wh Tryz.prog 10 [] (.bool true)):bf Tryz.prog (fun _=>none) W1:=
 VI Au UZ (wall0 h).g (fun e:Int=>sure_to e) (fun _=>rfl) (fun _=>rfl)
theorem RC (h:Wh Tryz.prog 10 [] (.bool true)) (w:World) (c:Cj) (f:Int) (Cc:List Int) {x y z:Value} (hx:VR (Cx.memory w) (.O (CJ c)) x) (hy:VR (Cx.memory w) (.int .i64 f) y) (hz:VR (Cx.memory w) (Cq CN 1 Cc) z):
 Calls Tryz.prog 4 #[x,y,z] w fun e w'=>e= .returned (.bool true)/\Go.RowKit.Below w.heap.size w w':=
 V8 Au (wall1 h) (args:=[.O (CJ c),.int .i64 f,Cq CN 1 Cc]) (by rfl) (ways_to c f Cc) (fun _ _ h=>by cases h) (.J hx (.J hy (.J hz .O)))
end Go.Proofs.YtpihdbhocgcbpaaGreatDoor.Wy
