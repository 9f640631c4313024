/- Types: the kinds that shapes tell; reading a type. -/
import Derived.Test.YtfhimfcbphepeaaGreatDoorCdA
import Derived.Test.YtfhimfcbphepeaaGreatDoorCdD
set_option linter.unusedSectionVars false
set_option linter.unusedVariables false
set_option linter.unusedSimpArgs false
open Go Am
namespace Am
section
variable {E : Env} {fr : Fr} {l : Sl} {st : St} {o : Oper} {all rest : List Oper} {i : Nat} {js : List Nat} {nl : Wu} {K : Sl -> St -> Prop} {od : Option Nat}
theorem ED {KN:PN} {t:TypeId} {a x:Operand} {k b off:Nat} {v:AV} {cs XU:List AV} {e:TypeId} {part:Bool} (ZR:st.bound<=b) (fh:b<st.next) (ho:o.op= .store t a x) (hn:sizeOf E t=some k)
 (ha:Ch a (CQ (tmpsOf o.op.operands.toList) l)=some (.ptr b off)) (hx:Ch x (CQ (tmpsOf o.op.operands.toList) l)=some v) (fT:st.heap.get b=some (.cells cs e part)) (hlen:v.cells.length=k) (htup:v.isTuple=false) (tm:over v.cells off cs=some XU)
 (hc:WC (CZ all i) b nl=true) (g9:fy (CZ all i) js=true) (hg:CY all l o) (hd:o.dst=od) (Co:WB fr.nt od=true)
 (h:CK E KN all rest (i+1) fr (Xp od (.tuple []) l) (st.put b (some (.cells XU e part))) (i::js) ((i,b)::nl) K):CK E KN all (o::rest) i fr l st js nl K:=by
 refine JH fh ho hn ha hx fT hlen htup tm hc g9 hg hd Co ?_;have hb:Nat.blt b st.bound=false:=by
  cases hh:Nat.blt b st.bound with
  |false=>rfl
  |true=>
   have:b<st.bound:=Qc hh;omega
 have e:({st with log:=bif Nat.blt b st.bound then b::st.log else st.log,heap:=st.heap.set b (some (.cells XU e part))}:St)=st.put b (some (.cells XU e part)):=by
  unfold St.put;rw[hb];rfl
 rw[e];exact h
end
end Am
namespace Go.Proofs.YtfhimfcbphepeaaGreatDoor.Ty
theorem sj {js:List Nat} {a:Nat} {KN:PN} (h:(js.all fun j=>Nat.testBit a j||KN.rl.any fun e=>Nat.beq e.1 j)=true):∀j∈js,Nat.testBit a j=true\/∃e∈KN.rl,e.1=j:=fun j hj=>by
 have:=List.all_eq_true.1 h j hj;rw[Bool.or_eq_true]at this;refine this.imp id fun h=>?_;obtain⟨e,he,h2⟩:=List.any_eq_true.1 h;exact⟨e,he,Qb h2⟩
theorem x8 {ts:List XX} {n p:Nat} (hK:KiC ts n p) {s:St} {i:Nat} (h:DR s p ts i false) (hb:s.bound<=s.next) (hn:ts.length<=n+i):
 CE (EK LF) 99 [.ptr p 0] s (fun v s'=>∃a j c,mF s' v a s.next/\Ck s s' p/\DR s' p ts j c/\Wr s' p/\(c=false->dE (Xx ts n) ts i=some (a,j))/\(c=true->dE (Xx ts n) ts i=none)) fun _ _=>False:=
 Vp hK h hb hn (fun a j e v s' hv g r w=>⟨a,j,false,hv,g,r,w,fun _=>e,fun h=>by cases h⟩) fun e a j v s' hv g r w=>⟨a,j,true,hv,g,r,w,(fun h=>by cases h),fun _=>e⟩
theorem DR.kill {s st:St} {p i:Nat} {b:Bool} {ts:List XX} {ks:List Nat} (r:DR st p ts i b) (hk:∀c∈ks,s.next<=c) (hp:p<s.next):DR (kill st ks) p ts i b:=⟨(GO fun h=>by have:=hk p h;omega).trans r.at_,by rw[BQ];exact r.lt,r.le,r.small⟩
theorem Ck.merged {S s2:St} {p i:Nat} {b:Bool} {ts:List XX} (g:Ck (S.sub S.heap) s2 p) (r:DR s2 p ts i b) (hb:S.bound<=S.next):S.next<=s2.next/\(∀c∈s2.log,c<S.next/\c=p)/\Ck S (S.merged s2) p/\DR (S.merged s2) p ts i b:=
 have hn:S.next<=s2.next:=g.Wh.next
 ⟨hn,fun c hc=>by
  rcases g.Wh.log c hc with h|h
  .cases h
  .exact h,⟨g.Wh.merged,Ct.region hn g.ax hb⟩,⟨(D6 hn g.ax U p r.lt).trans r.at_,r.lt,r.le,r.small⟩⟩
theorem LP {s:St} {a:Sh} {kv:AV} (h:Yh s kv a.kids) (m:Nat) (ks:List Nat):∃k2,Cs.many (Cs s 0 (m+2)) [.int .i64 (a.op:Nat),.str a.text,.int .i64 0,kv] ks=some (WH a,k2++ks)/\∀c∈k2,C6 c kv=true:=by
 obtain⟨k2,h1,h2⟩:=h.j0 m ks;refine⟨k2,?_,h2⟩;show((((Cs s 0 (m+2) kv ks).bind _).bind _).bind _).bind _=_;rw[h1,BF];rfl
theorem GN (ts:List XX) (p:Nat):∀n,KiC ts n p
 |0=>fun s i R RP h hb hn _ _=>by have:=h.le;omega
 |n+1=>by
  intro s i R RP h hb hn hR hB;refine Ar U ?_;have hE:s.enter.bound<=s.enter.next:=Qj _;have h0:DR s.enter p ts i false:=⟨h.at_,h.lt,h.le,h.small⟩
  obtain⟨sA,Yr⟩:∃x,x=s.enter.alloc (.cells WY 96 false):=⟨_,rfl⟩
  have gA:Ck s.enter sA p:=by rw[Yr];exact Ck.alloc hE
  have rA:DR sA p ts i false:=h0.of (by rw[Yr];exact(Ao h.lt).trans h0.at_) (by rw[Yr];exact Nat.le_succ _) h.le;have cA:sA.heap.get s.next=some (.cells WY 96 false):=by rw[Yr];exact A4
  have nA:sA.next=s.next+1:=by rw[Yr];rfl
  have Co:p<s.next:=h.lt;have fe:=gA.Y2 hE;have fin:∀(st:St) (x:Sh) (kv:AV) (ks:List Nat) (k:Nat) (c:Bool),Cs.many (Cs st 0 39) [.int .i64 (x.op:Nat),.str x.text,.int .i64 0,kv] []=some (WH x,ks)->(∀b∈ks,s.next<=b)->Ck s.enter st p->DR st p ts k c->Wr st p->(c=false->Xx ts (n+1) i=some (x,k))->(c=true->Xx ts (n+1) i=none)->
   ∃cr,leave (EK LF) 40 s (.agg [.int .i64 (x.op:Nat),.str x.text,.int .i64 0,kv]) st=some cr/\match cr with
    | .same v=>R v s
    | .val v s'=>R v s'
    | .WR _ _=>False:=by
   intro st x kv ks k c hz gD g r w h1 h2;have xz:p<st.bound:=by rw[g.Wh.bound];exact Co
   have hz2:Cs st 0 40 (.agg [.int .i64 (x.op:Nat),.str x.text,.int .i64 0,kv]) []=some (.agg (WH x),ks):=by
    show((Cs.many (Cs st 0 39) [.int .i64 (x.op:Nat),.str x.text,.int .i64 0,kv] []).bind _)=_;rw[hz];rfl
   refine⟨_,Jj U (w.log xz) hz2 (fun b hb=>by rw[g.Wh.bound];exact gD b hb),?_⟩;have g2:=(g.kill gD hE).back hb;have r2:=r.kill gD Co;cases c with
   |false=>exact hR x k (h1 rfl) _ g2 ⟨r2.at_,r2.lt,r2.le,r2.small⟩
   |true=>exact hB (h2 rfl) x k _ g2 ⟨r2.at_,r2.lt,r2.le,r2.small⟩
  refine Es<|Lo (kz U) U<|Ld ?_;refine Aq fun sX WZ=>?_;obtain rfl:sX=sA:=WZ.trans Yr.symm;clear WZ Yr;refine Es<|qm U ?_;refine Af U U (by kernel_rfl) U U U U ((x8 (GN ts p n) rA fe (by omega)).mono (fun v s1 ⟨a,j,c,⟨kv,hv,hk,fB⟩,g1,r1,w1,h1,h2⟩=>?_) fun _ _ h=>h.elim);subst hv;have c1:s1.heap.get s.next=some (.cells WY 96 false):=(g1.Wh.heap _ (by omega) (by omega)).trans cA;have lG:=g1.Wh.next;have hkv:=hk.form;obtain⟨a1,a2,a3,a4,a5,a6,a7⟩:=Bg (st:=s1) (z:=WY) (cs:=[.int .i64 (a.op:Nat),.str a.text,.int .i64 0,kv]) (T:=96);refine Lo (kz U) U<|Ln (kw U a1 U) U<|Ld<|Sq ?_;refine Aq fun sB W6=>?_;have gB:Ck s.enter sB p:=by rw[W6];exact(gA.trans g1 hE).trans (Ck.own ((gA.trans g1 hE).Y2 hE) rfl) hE
  have rB:DR sB p ts j c:=r1.of (by rw[W6];exact(a4 _ r1.lt).trans r1.at_) (by rw[W6];exact Nat.le_succ _) r1.le;have cB:sB.heap.get s.next=some (.cells WY 96 false):=by rw[W6];exact(a4 _ (by omega)).trans c1
  have tB:sB.heap.get s1.next=some (.cells [.int .i64 (a.op:Nat),.str a.text,.int .i64 0,kv] 96 false):=by rw[W6];exact a2
  have nB:sB.next=s1.next+1:=by rw[W6];exact a7
  have wB:Wr sB p:=by rw[W6];exact w1.more (Ck.own (p:=p) ((gA.trans g1 hE).Y2 hE) rfl).ax
  have kB:Yh sB kv a.kids:=hk.Wd (by omega) fun d hd=>by rw[W6];exact a4 _ (hk.own hd)
  clear a1 a2 a3 a4 a5 a6 a7 W6;have hbB:=gB.Y2 hE;refine Es<|qm U ?_;refine Af U U (by kernel_rfl) U U U U (Fc rB hbB (fun hc ht s3 g3 r3 w3=>?_) fun hf=>?_)
  .subst hc;have c3:s3.heap.get s.next=some (.cells WY 96 false):=(g3.Wh.heap _ (by omega) (by omega)).trans cB;have t3:s3.heap.get s1.next=some (.cells [.int .i64 (a.op:Nat),.str a.text,.int .i64 0,kv] 96 false):=(g3.Wh.heap _ (by omega) (by omega)).trans tB;have k3:Yh s3 kv a.kids:=kB.Wd g3.Wh.next fun d hd=>g3.Wh.heap _ (kB.own hd) (by have:=fB d hd;omega);have tF:=gB.trans g3 hE;have ur:=tF.Y2 hE;have hj:=TG (FT ts n) _ _ _ (h1 rfl);refine Ld<|Tt U<|Ag (by kernel_rfl)<|FO U U (BM Io EH t3 (Qj _)) U (.inl U) U U<|Nv 1 U ?_;refine En (by kernel_rfl) U U U (x4 (GN ts p n) (s:=s3.sub s3.heap) ⟨r3.at_,r3.lt,r3.le,r3.small⟩ (Qj _) (by omega)) (sj (by kernel_rfl)) U (.inl U) U U ?_ (fun _ _ h=>h.elim);rintro v s4 ⟨a2,k4,c4,rfl,g4,r4,h3,h4⟩;obtain⟨m1,m2,g5,r5⟩:=g4.merged r4 ur;refine⟨m1,fun d hd=>(m2 d hd).1,fun e he=>?_,fun iD dx=>?_⟩
   .rw[Qn.1 he];exact .inr (.inl fun hm=>by have:=(m2 _ hm).2;dsimp only at this;omega)
   rw[BF];generalize s3.merged s4=s5 at*;refine Bh U vY EH vZ U U U (.inl U) U U<|Nv 1 U ?_;have hn5:=g5.Wh.next;have vD:=g3.Wh.next;have hnB:s.next<s5.next:=by have:=g3.Wh.next;omega
   have hb5:s5.bound=s.next:=g5.Wh.bound.trans (tF.Wh.bound);refine ED (by show s5.bound<=s.next;omega) (by show s.next<s5.next+1;omega) U EH U U ((Ao hnB).trans ((g5.Wh.heap _ (by omega) (by omega)).trans c3)) U U U (Dy (by rw[List.all_cons,dx.all U (by kernel_rfl)];kernel_rfl)) (by kernel_rfl) (.inl U) U U ?_;refine BT ?_;obtain⟨s6,pL⟩:∃x,x=s5.alloc (.cells [.int .i64 (a.op:Nat),.str a.text,.int .i64 0,kv,.int .i64 (a2.op:Nat),.str a2.text,.int .i64 0,CJ (CH a2.kids) a2.kids.length 4] 96 false):=⟨_,rfl⟩
   have g6:Ck s.enter s6 p:=by rw[pL];exact(tF.trans g5 hE).trans (Ck.alloc (g5.Y2 ur)) hE
   have r6:DR s6 p ts k4 c4:=r5.of (by rw[pL];exact(Ao r5.lt).trans r5.at_) (by rw[pL];exact Nat.le_succ _) r5.le;have l6:s6.heap.get s5.next=some (.cells [.int .i64 (a.op:Nat),.str a.text,.int .i64 0,kv,.int .i64 (a2.op:Nat),.str a2.text,.int .i64 0,CJ (CH a2.kids) a2.kids.length 4] 96 false):=by rw[pL];exact A4
   have k6:Yh s6 kv a.kids:=k3.Wd (by rw[pL];show s3.next<=s5.next+1;omega) fun d hd=>by rw[pL];exact(Ao (Nat.lt_of_lt_of_le (k3.own hd) hn5)).trans (g5.Wh.heap _ (k3.own hd) (by have:=fB d hd;omega))
   have w6:Wr s6 p:=by rw[pL];exact(w3.more g5.ax).more (Ck.alloc (p:=p) (g5.Y2 ur)).ax
   show Cz _ _ _ _ ((s5.alloc (.cells [.int .i64 (a.op:Nat),.str a.text,.int .i64 0,kv,.int .i64 (a2.op:Nat),.str a2.text,.int .i64 0,CJ (CH a2.kids) a2.kids.length 4] 96 false)).put s.next (some (.cells [.int .i64 102,.str [],.int .i64 0,.slice s5.next 0 2 4 (some 2)] 96 false))) _;rw[<-pL];have rP:∀o,DR (s6.put s.next o) p ts k4 c4:=fun o=>r6.of (by rw[Aw,if_neg (show¬p=s.next by omega)];exact r6.at_) (Qj _) r6.le;have kC:∀o,Yh (s6.put s.next o) kv a.kids:=fun o=>k6.Wd (Qj _) fun d hd=>by rw[Aw,if_neg (by have:=fB d hd;omega)]
   obtain⟨k2,hz,jP⟩:=LP (kC (some (.cells [.int .i64 102,.str [],.int .i64 0,.slice s5.next 0 2 4 (some 2)] 96 false))) 36 [];have hz2:Cs.many (Cs (s6.put s.next (some (.cells [.int .i64 102,.str [],.int .i64 0,.slice s5.next 0 2 4 (some 2)] 96 false))) 0 39) [.int .i64 (Sh.mk 102 [] [a,a2]).op,.str (Sh.mk 102 [] [a,a2]).text,.int .i64 0,.slice s5.next 0 2 4 (some 2)] []=some (WH (.mk 102 [] [a,a2]),s5.next::(k2++[])):=by
    have h1:Cs (s6.put s.next (some (.cells [.int .i64 102,.str [],.int .i64 0,.slice s5.next 0 2 4 (some 2)] 96 false))) 0 39 (.slice s5.next 0 2 4 (some 2)) []=some (.Cf (WH a++WH a2) 2 4 ((WH a++WH a2).all (Cj 40)),s5.next::(k2++[])):=
     GS (Qm _) ((Aw.trans (if_neg (by omega))).trans l6) rfl (P2 (a:=[.int .i64 (a.op:Nat),.str a.text,.int .i64 0,kv]) hz (by rw[<-BF];exact Oi a2 _))
    show((((Cs (s6.put s.next _) 0 39 (.slice s5.next 0 2 4 (some 2)) []).bind _).bind _).bind _).bind _=_;rw[h1,List.all_append,Fm,Fm];have e1:CH [a,a2]=WH a++WH a2:=by show WH a++(WH a2++[])=_;rw[List.append_nil]
    have e:WH (.mk 102 [] [a,a2])=([.int .i64 102,.str [],.int .i64 0,.Cf (WH a++WH a2) 2 4 true]:List AV):=by
     show([.int .i64 102,.str [],.int .i64 0,CJ (CH [a,a2]) 2 4]:List AV)=_;rw[e1];rfl
    rw[e];rfl
   refine Se (Al ⟨.inl U,_,rfl,_,A5 U Io EH (Aw.trans (if_pos U)) (Qj _) U,fin _ (.mk 102 [] [a,a2]) _ _ k4 c4 hz2 (fun b hb=>?_) (g6.XD (Qj _) hE) (rP _) (w6.more Ct.put) (fun hc=>?_) fun hc=>?_⟩)
   .rcases Qk.1 hb with rfl|hb
    .omega
    .have:=fB b (jP b (by simpa using hb));omega
   .unfold Xx;rw[h1 rfl,Qe,if_pos ht,h3 hc];rfl
   .unfold Xx;rw[h1 rfl,Qe,if_pos ht,h4 hc];rfl
  .refine Ld ?_;refine Tf U<|Sk<|Es<|Lo (kL U tB U) U<|Ln (kw U cB U) U<|Ld ?_;have rP:∀o,DR (sB.put s.next o) p ts j c:=fun o=>rB.of (by rw[Aw,if_neg (show¬p=s.next by omega)];exact rB.at_) (Qj _) rB.le;have kC:∀o,Yh (sB.put s.next o) kv a.kids:=fun o=>kB.Wd (Qj _) fun d hd=>by rw[Aw,if_neg (by have:=fB d hd;omega)]
   obtain⟨k2,hz,jP⟩:=LP (kC (some (.cells [.int .i64 (a.op:Nat),.str a.text,.int .i64 0,kv] 96 false))) 37 [];refine Se (Al ⟨.inl U,_,rfl,_,A5 U Io EH (Aw.trans (if_pos U)) (Qj _) U,fin _ a kv _ j c hz (fun b hb=>by
    have:=fB b (jP b (by simpa using hb));omega) (gB.XD (Qj _) hE) (rP _) (wB.more Ct.put) (fun hc=>?_) fun hc=>?_⟩)
   .subst hc;unfold Xx;rw[h1 rfl,Qe,if_neg (by rw[show fc ts j arw=false from hf];exact Bool.false_ne_true)]
   .unfold Xx;rw[h2 hc];rfl
end Go.Proofs.YtfhimfcbphepeaaGreatDoor.Ty
open Go Am
namespace Am
theorem H7 {E:Env} {f:FuncId} {v w:AV} {s st:St} {ks:List Nat} {R:AV->St->Prop} (hf:E.j0 f=2) (hz:Cs st 0 40 v []=some (w,ks)) (hk:∀b∈ks,st.bound<=b) (hu:Cr s.next 40 w=true) (h1:st.log=[]->R w s) (h2:st.log≠ []->R w (s.back (kill st ks))):
 ∃cr,leave E f s v st=some cr/\match cr with
  | .same v=>R v s
  | .val v s'=>R v s'
  | .WR _ _=>False:=by
 by_cases hl:st.log=[]
 .refine⟨.same w,?_,h1 hl⟩;unfold leave frozen;rw[hf];simp only;show((Wm 0 v st).bind _)=_;unfold Wm;rw[hz];simp only[Qe];rw[GP hk,hl];show some (bif Cr s.next 40 w then _ else _)=_;rw[hu];rfl
 .exact⟨_,Jj hf hl hz hk,h2 hl⟩
end Am
namespace Go.Proofs.YtfhimfcbphepeaaGreatDoor.Ty
theorem KD {s:St} {b:Nat} {v x y z:AV} {e:TypeId} {part:Bool} (hg:s.heap.get b=some (.cells [x,y,z] e part)) (hv:v= .Ca\/∃b o n k c,v= .slice b o n k c):bG 1 s v (.ptr b 2)=some (s.put b (some (.cells [x,y,v] e part))):=by
 rcases hv with rfl|⟨_,_,_,_,_,rfl⟩<;>exact Ds hg rfl rfl rfl
theorem idx_tr {l:List Sh} {i:Nat} (h:i<l.length):CC (3+1) i (CJ (CH l) l.length 4)=some (.Wl (WH l[i]++(l.drop (i+1)).flatMap WH)):=by
 have e:CJ (CH l) l.length 4=CM WH (3+1) l:=by rw[IT (by omega),DZ];rfl
 rw[e];exact A9 Vc h
mutual
def iB:Sh->Nat
 | .mk _ _ ks=>dh ks+1
def dh:List Sh->Nat
 | []=>0
 |t::ts=>max (iB t) (dh ts)
end
theorem QZ (t:Sh):iB t=dh t.kids+1:=by cases t;rfl
theorem J2:∀ {l:List Sh} {t:Sh},t∈l->iB t<=dh l
 |u::l,t,h=>by
  show iB t<=max (iB u) (dh l);rcases Qk.1 h with rfl|h
  .exact Nat.le_max_left _ _
  .exact Nat.le_trans (J2 h) (Nat.le_max_right _ _)
mutual
def YX:Sh->Nat
 | .mk _ _ ks=>Xt ks+1
def Xt:List Sh->Nat
 | []=>0
 |t::ts=>YX t+Xt ts
end
def gu (ds:List DT) (w:X4) (k:Nat):Bool:=match YR w (ds.map DT.name)with
 |none=>true
 |some i=> !decide (((ds[i]?.map DT.params).getD 0)=(k:Int))
mutual
def cI (ds:List DT):Sh->List X4->KT×List X4×Bool
 | .mk o w ks,ps=>if o=100 then if w=[105,110,116]then(.mk 2 0 [],ps,false)else match YR w ps with
  |some k=>(.mk 1 k [],ps,false)
  |none=>(.mk 1 ps.length [],ps++[w],false)
  else if o=101 then(.mk 4 (ji (YR w (ds.map DT.name))) (YH ds ks ps).1,(YH ds ks ps).2.1,gu ds w ks.length||(YH ds ks ps).2.2)
  else(.mk 3 0 (YH ds ks ps).1,(YH ds ks ps).2.1,(YH ds ks ps).2.2)
def YH (ds:List DT):List Sh->List X4->List KT×List X4×Bool
 | [],ps=>([],ps,false)
 |x::xs,ps=>((cI ds x ps).1::(YH ds xs (cI ds x ps).2.1).1,(YH ds xs (cI ds x ps).2.1).2.1,(cI ds x ps).2.2||(YH ds xs (cI ds x ps).2.1).2.2)
end
theorem Jk (ds:List DT) (x:Sh) (xs:List Sh) (ps:List X4):YH ds (x::xs) ps=((cI ds x ps).1::(YH ds xs (cI ds x ps).2.1).1,(YH ds xs (cI ds x ps).2.1).2.1,(cI ds x ps).2.2||(YH ds xs (cI ds x ps).2.1).2.2):=by rw[YH]
mutual
theorem Pw (ds:List DT):∀(x:Sh) (ps:List X4),(cI ds x ps).2.1.length<=ps.length+YX x
 | .mk o w ks,ps=>by
  have h:=QA ds ks ps;have hs:YX (.mk o w ks)=Xt ks+1:=rfl;unfold cI;split
  .split
   .dsimp only;omega
   .split
    .dsimp only;omega
    .dsimp only;rw[Ql];show ps.length+1<=_;omega
  .split<;>(dsimp only;omega)
theorem QA (ds:List DT):∀(l:List Sh) (ps:List X4),(YH ds l ps).2.1.length<=ps.length+Xt l
 | [],ps=>Qj _
 |x::l,ps=>by
  have h1:=Pw ds x ps;have h2:=QA ds l (cI ds x ps).2.1;have hs:Xt (x::l)=YX x+Xt l:=rfl;unfold YH;dsimp only;omega
end
theorem H6:∀ks:List Sh,ks.length<=Xt ks
 | []=>Qj _
 | .mk o w ks::ts=>by
  have:=H6 ts;show ts.length+1<=(Xt ks+1)+Xt ts;omega
structure WD (s:St) (p:Nat) (ds:List DT) (b:Bool):Prop where
 at_:s.heap.get p=some (.cells [We ds,.Ca,.Ca,.bool b] 100 false)
 lt:p<s.next
theorem WD.of {s s':St} {p:Nat} {b b':Bool} {ds:List DT} (h:WD s p ds b) (hg:s'.heap.get p=some (.cells [We ds,.Ca,.Ca,.bool b'] 100 false)) (hn:s.next<=s'.next):WD s' p ds b':=⟨hg,Nat.lt_of_lt_of_le h.lt hn⟩
theorem WD.eq {s st:St} {p:Nat} {b b':Bool} {ds:List DT} (g:Ck s.enter st p) (h:WD s p ds b) (r:WD st p ds b') (hl:st.log=[]):b=b':=by
 have:=g.ax.same p h.lt (by rw[hl];exact List.not_mem_nil);rw[r.at_]at this;have:=this.trans h.at_;simp only[Option.some.injEq,Cw.cells.injEq,List.cons.injEq,AV.bool.injEq,and_true,true_and]at this;exact this.symm
abbrev Ws:List AV:=[.int .i64 0,.int .i64 0,.Ca]
def KinC (ds:List DT) (p n:Nat):Prop:=∀(s:St) (x:Sh) (ps:List X4) (b:Bool) (R RP:AV->St->Prop),iB x<=n->WD s p ds b->s.bound<=s.next->ps.length+YX x<=4000->
 (∀s',Ck s s' p->WD s' p ds (b||(cI ds x ps).2.2)->R (.tuple [.agg (W4 (cI ds x ps).1),Ww (cI ds x ps).2.1]) s')->CE (EK LF) 41 [.ptr p 0,.agg (WH x),Ww ps,.bool true] s R RP
theorem Ux (ds:List DT) (hd:ds.length<=1000) (p:Nat):∀n,KinC ds p n
 |0=>fun s x ps b R RP h _ _ _ _=>by rw[QZ]at h;omega
 |n+1=>by
  rintro s ⟨o,w,ks⟩ ps b R RP zL h hb Xn hR;have rZ:dh ks<=n:=by have:dh ks+1<=n+1:=zL;omega
  have hE:s.enter.bound<=s.enter.next:=Qj _;have hszs:YX (.mk o w ks)=Xt ks+1:=rfl;have fX:=H6 ks;refine Ar U ?_;have hit_101:LF 101 [Ww ps,.str w]=some (.int .i64 (ji (YR w ps))):=wX (by omega);have hl:=IA ps;have e:WH (.mk o w ks)=[.int .i64 (o:Nat),.str w,.int .i64 0,CJ (CH ks) ks.length 4]:=rfl;rw[e];obtain⟨sA,Yr⟩:∃x,x=(s.enter.alloc (.cells [.int .i64 (o:Nat),.str w,.int .i64 0,CJ (CH ks) ks.length 4] 96 false)).alloc (.cells Ws 26 false):=⟨_,rfl⟩
  have gA:Ck s.enter sA p:=by rw[Yr];exact(Ck.alloc hE).trans (Ck.alloc (Nat.le_succ _)) hE
  have wA:WD sA p ds b:=h.of (by rw[Yr];exact(Ao (Nat.lt_succ_of_lt h.lt)).trans ((Ao h.lt).trans h.at_)) (by rw[Yr];show s.next<=s.next+2;omega);have tA:sA.heap.get s.next=some (.cells [.int .i64 (o:Nat),.str w,.int .i64 0,CJ (CH ks) ks.length 4] 96 false):=by rw[Yr];exact(Ao (Nat.lt_succ_self _)).trans A4
  have cA:sA.heap.get (s.next+1)=some (.cells Ws 26 false):=by rw[Yr];exact A4
  have nA:sA.next=s.next+2:=by rw[Yr];rfl
  have Co:p<s.next:=h.lt;have fe:=gA.Y2 hE;have hpA:=wA.at_;obtain⟨T,hT⟩:∃T,T=cI ds (.mk o w ks) ps:=⟨_,rfl⟩
  rw[<-hT]at hR;have fin:∀(st:St) (cs:List AV) (pv:AV) (Zt:List Nat),Cs.many (Cs st 0 39) [.agg cs,pv] []=some ([.agg (W4 T.1),Ww T.2.1],Zt)->(∀c∈Zt,s.next<=c)->Ck s.enter st p->WD st p ds (b||T.2.2)->
   ∃cr,leave (EK LF) 41 s (.tuple [.agg cs,pv]) st=some cr/\match cr with
    | .same v=>R v s
    | .val v s'=>R v s'
    | .WR _ _=>False:=by
   intro st cs pv Zt hz gD g r;refine H7 U (w:= .tuple [.agg (W4 T.1),Ww T.2.1]) (ks:=Zt) ?_ (fun c hc=>by rw[g.Wh.bound];exact gD c hc) ?_ (fun hl=>hR s Ck.refl ?_) fun hl=>hR _ ((g.kill gD hE).back hb) ⟨(GO fun hm=>by have:=gD p hm;omega).trans r.at_,by show p<(kill st Zt).next;rw[BQ];exact r.lt⟩
   .show((Cs.many (Cs st 0 39) [.agg cs,pv] []).bind _)=_;rw[hz];rfl
   .show(Cr s.next 39 (.agg (W4 T.1))&&(Cr s.next 39 (Ww T.2.1)&&true))=true;rw[F2,Hr];rfl
   .rw[<-h.eq g r hl];exact h
  have qH:∀(st:St) (T1:Int) (T2:Int) (pv:AV) (Zt:List Nat),T.1= .mk T1 T2 []->Cs st 0 39 pv []=some (Ww T.2.1,Zt)->(∀c∈Zt,s.next<=c)->Ck s.enter st p->WD st p ds (b||T.2.2)->
   ∃cr,leave (EK LF) 41 s (.tuple [.agg [.int .i64 T1,.int .i64 T2,.Ca],pv]) st=some cr/\match cr with
    | .same v=>R v s
    | .val v s'=>R v s'
    | .WR _ _=>False:=by
   intro st T1 T2 pv Zt h1 hz gD g r;refine fin st _ pv Zt ?_ gD g r;show(((Cs st 0 39 pv []).bind _).bind _)=_;rw[hz,h1];rfl
  have wP:∀ {st b2} (o:Option Cw),WD st p ds b2->WD (st.put (s.next+1) o) p ds b2:=fun o r=>r.of (by rw[Aw,if_neg (show¬p=s.next+1 by omega)];exact r.at_) (Qj _);refine Es<|Lo (AO U U U) U<|Lo (kz U) U<|Lw U<|Sq ?_;refine Aq fun sX WZ=>?_;obtain rfl:sX=sA:=WZ.trans Yr.symm;clear WZ Yr;focus
   refine Es<|Lv 1 U<|Lo (kl U tA U) U<|Lw U ?_;refine Cd U (fun h1=>?_) (fun h1=>?_);refine Sq<|Es<|Lv 1 U<|Lo (kl U tA U) U<|Lq (A2 U CT U U U U) U<|Ld ?_;refine Cb U (fun g2=>?_) (fun g2=>?_);have h2:=bT g2;refine Es<|Lv 2 U<|Ln (kw U cA U) U<|Lw U ?_;rotate_left;have h2:=bF g2;refine Sk<|Es<|Lv 2 U<|Lo (kl U tA U) U ?_;refine Lo (kc U (hit_101)) U<|Lw U<|Sq<|Es<|Lv 3 U ?_;refine Bb U (fun g3=>?_) (fun g3=>?_);have h3:=dT g3;refine Lw U<|Tt U<|Ag (by kernel_rfl)<|Nv 1 U<|Nq (kn U hl) U<|Nv 2 U ?_;rotate_left;have h3:=dF g3;refine Lw U<|Tf U<|Ho<|DK<|Ew U<|HP U g3<|Sk<|Es<|Lv 3 U<|Ln (kw U cA U) U<|Lw U ?_;rotate_left;refine Sk<|Es<|Lv 1 U<|Lo (kz U) U ?_;rotate_left
  .have hw:w=[105,110,116]:=h2;have e1:T=(.mk 2 0 [],ps,false):=by rw[hT];unfold cI;rw[if_pos (by omega),if_pos hw]
   refine Se (Al ⟨.inl U,_,rfl,_,A5 U EI Dj (Aw.trans (if_pos U)) (Qj _) (Aa U U),qH _ 2 0 _ [] (by rw[e1]) (by rw[e1];exact FD) (fun c hc=>by cases hc) (gA.XD (Nat.le_succ _) hE) ?_⟩);rw[e1,Bool.or_false];exact wP _ wA
  .have hw:¬w=[105,110,116]:=h2;have hn:YR w ps=none:=by
    cases hi:YR w ps with
    |none=>rfl
    |some k=>rw[hi]at h3;have h3:(k:Int)<0:=h3;omega
   have e1:T=(.mk 1 ps.length [],ps++[w],false):=by rw[hT];unfold cI;rw[if_pos (by omega),if_neg hw,hn]
   refine SG (new:=ps.map .str) (m:=ps.length) fe (by rw[List.length_map,Nat.mul_one]) (by decide) (AH (by omega) (by decide)) U U U U MV HT tf pU (by kernel_rfl) (by kernel_rfl) U U (MI (by rw[List.length_map,Nat.mul_one])) (by kernel_rfl) (by kernel_rfl) (.inl U) U U fun v2 s2 iD g2 o2 c2 l2 dx=>?_;have t2:=(c2.heap (s.next) (by omega) (fun h=>h)).trans tA;have hn2:=c2.next;refine Nv 1 U<|B5 U U (AI oi HT t2 U) (dx.clear U (show s.next<sX.next by omega) List.not_mem_nil) (.inl U) U U<|Bh U MV HT pU U U U (.inl U) U U ?_;have Za:∀a,Nat.testBit a 4=true->(iD.all fun p=>Nat.testBit a p.1)=true:=fun a ha=>dx.all rfl ha
   refine HL (new:=[.str w]) g2 (by rw[c2.bound];omega) U (by decide) (AH (by omega) (by decide)) (AH (by omega) (by decide)) U U U U MV HT tf pU (by kernel_rfl) (by kernel_rfl) U U (by kernel_rfl) (by rw[List.all_cons,Za _ (by kernel_rfl)];kernel_rfl) (.inl U) U U fun v3 s3 nl3 g3 o3 c3 l3 X7=>?_;have vD:=c3.next;have sQ:C6 (s.next+1) v2=false:=by
    cases hh:C6 (s.next+1) v2 with
    |false=>rfl
    |true=>have:=o2 _ hh;omega
   have hg3:Ck s.enter s3 p:=⟨gA.Wh.trans (c2.trans c3 (own:=fun c=>c=p\/sX.next<=c) (fun _ h=>h.elim) (fun c h=> .inl (.inr (o2 c h))) fe) (fun _ h=>h) (fun c h=>h.imp id fun h=>by show s.next<=c;omega) hE,gA.ax.trans (l2.trans l3)⟩
   have b3:s3.bound=s.next:=hg3.Wh.bound;have p3:∀c,c<sX.next->s3.heap.get c=sX.heap.get c:=fun c hc=>(c3.heap c (by omega) fun e=>by have:=o2 c e;omega).trans (c2.heap c hc fun h=>h)
   skip
   refine ED (show s3.bound<=s.next+1 by omega) (show s.next+1<s3.next by omega) U Dj U U ((p3 _ (by omega)).trans cA) U U U (X7 _ (show s.next+1<s2.next by omega) sQ _ (Dy (by rw[List.all_cons,Za _ (by kernel_rfl)];kernel_rfl))) (by kernel_rfl) (.inl U) U U ?_;refine Nw U ?_;have g4:Grown (s3.put (s.next+1) (some (.cells [.int .i64 1,.int .i64 ps.length,.Ca] 26 false))) 9 1 v3 ((ps++[w]).map .str) (ps++[w]).length:=by
    rw[List.map_append,Ql];exact g3.Wd (Qj _) fun c hc=>by rw[Aw,if_neg (by have:=o3 c hc;omega)]
   obtain⟨k2,hz,jP⟩:=GR g4 (LQ _) (I9 _) [];rw[List.append_nil]at hz;refine Se (Al ⟨.inl U,_,rfl,_,A5 U EI Dj (Aw.trans (if_pos U)) (Qj _) (Aa U U),qH _ 1 ps.length _ k2 (by rw[e1]) (by rw[e1];exact hz) (fun c hc=>by have:=o3 c (jP c hc);omega) (hg3.XD (Nat.le_succ _) hE) (wP _ ?_)⟩);rw[e1,Bool.or_false];exact wA.of ((p3 p (by omega)).trans wA.at_) (by omega)
  .obtain⟨k,hk⟩:∃k,YR w ps=some k:=by
    cases hi:YR w ps with
    |none=>rw[hi]at h3;exact absurd (by decide:(-1:Int)<0) h3
    |some k=>exact⟨k,rfl⟩
   have hw:¬w=[105,110,116]:=h2;have e1:T=(.mk 1 k [],ps,false):=by rw[hT];unfold cI;rw[if_pos (by omega),if_neg hw,hk]
   refine Se (Al ⟨.inl U,_,rfl,_,A5 U EI Dj (Aw.trans (if_pos U)) (Qj _) (Aa U U),qH _ 1 (ji (YR w ps)) _ [] (by rw[e1,hk];rfl) (by rw[e1];exact FD) (fun c hc=>by cases hc) (gA.XD (Nat.le_succ _) hE) ?_⟩);rw[e1,Bool.or_false];exact wP _ wA
  .obtain⟨a1,a2,a3,a4,a5,a6,a7⟩:=Bg (st:=sX) (z:=Ws) (cs:=[.int .i64 3,.int .i64 0,.Ca]) (T:=26);refine Ln (kw U a1 U) U<|Ld<|Sq ?_;refine Aq fun sB W6=>?_;have gB:Ck s.enter sB p:=by rw[W6];exact gA.trans (Ck.own fe rfl) hE
   have wB:WD sB p ds b:=wA.of (by rw[W6];exact(a4 _ wA.lt).trans wA.at_) (by rw[W6];exact Nat.le_succ _);have tB:sB.heap.get s.next=some (.cells [.int .i64 (o:Nat),.str w,.int .i64 0,CJ (CH ks) ks.length 4] 96 false):=by rw[W6];exact(a4 _ (by omega)).trans tA
   have cB:sB.heap.get (s.next+1)=some (.cells Ws 26 false):=by rw[W6];exact(a4 _ (by omega)).trans cA
   have oB:sB.heap.get sX.next=some (.cells [.int .i64 3,.int .i64 0,.Ca] 26 false):=by rw[W6];exact a2
   have nB:sB.next=sX.next+1:=by rw[W6];exact a7
   have hpB:=wB.at_;have hbB:=gB.Y2 hE;clear a1 a2 a3 a4 a5 a6 a7 W6;have ho:o≠100:=fun e=>h1 (by omega);obtain⟨oh,nh,bh,sk,hy,hn⟩:∃(oh nh:Int) (bh:Bool),T=(.mk oh nh (YH ds ks ps).1,(YH ds ks ps).2.1,bh||(YH ds ks ps).2.2)/\(o=101->oh=4/\nh=ji (YR w (ds.map DT.name))/\bh=gu ds w ks.length)/\(o≠101->oh=3/\nh=0/\bh=false):=by
    rw[hT];unfold cI;rw[if_neg ho];by_cases h2:o=101
    .exact⟨_,_,_,by rw[if_pos h2],fun _=>⟨rfl,rfl,rfl⟩,fun h=>absurd h2 h⟩
    .exact⟨_,_,_,by rw[if_neg h2,Bool.false_or],fun h=>absurd h h2,fun _=>⟨rfl,rfl,rfl⟩⟩
   refine Hp (fun _:Unit=>([(52,.bool (decide ((o:Int)=101))),(11,.ptr sX.next 0),(8,.ptr (s.next+1) 0),(5,.ptr s.next 0),(3,.bool true),(2,Ww ps),(0,.ptr p 0)],sB)) (fun _=>True) ?_ fun _ _=>?_
   .refine Sr ?_;refine Lv 1 U<|Lo (kl U tB U) U<|Lw U ?_;exact⟨U,U,(),trivial,U,Ah (by repeat' constructor)⟩
   dsimp only;refine HN (fun x:St=>([(11,.ptr sX.next 0),(8,.ptr (s.next+1) 0),(5,.ptr s.next 0),(3,.bool true),(2,Ww ps),(0,.ptr p 0)],x)) (fun x=>Ck s.enter x p/\WD x p ds (b||bh)/\sX.next<x.next/\x.heap.get s.next=some (.cells [.int .i64 (o:Nat),.str w,.int .i64 0,CJ (CH ks) ks.length 4] 96 false)/\
    x.heap.get (s.next+1)=some (.cells Ws 26 false)/\x.heap.get sX.next=some (.cells [.int .i64 oh,.int .i64 nh,.Ca] 26 false)) ?_ ?_
   .by_cases h2:o=101
    .obtain⟨rfl,rfl,rfl⟩:=hy h2;have hit_102:LF 102 [We ds]=some (Ww (ds.map DT.name)):=hq_102 hd;have x9:LF 101 [Ww (ds.map DT.name),.str w]=some (.int .i64 (ji (YR w (ds.map DT.name)))):=wX (by rw[List.length_map];omega);have tq:sB.bound<=sX.next:=by rw[gB.Wh.bound];show s.next<=_;omega
     have lM:=GB (CH ks) ks.length 4;focus
      refine Cd U (fun h2=>?_) (fun h2=>?_);refine Ag (by kernel_rfl)<|Nv 3 U<|Nm U hpB U (.inl U) U ?_;refine Na (kC U (hit_102)) (.inl U) U<|Nv 1 U<|Nm U tB U (.inl U) U ?_;refine Na (kC U (x9)) (.inl U) U<|Nv 1 U<|ED tq (by first|exact Nat.lt_succ_self _|assumption|omega) U Dj U U oB U U U (by kernel_rfl) (by kernel_rfl) (.inl U) U U<|BT ?_;rotate_left;exact absurd h2 (by omega)
     refine Aq fun sC jV=>?_;have jV:sC=sB.put sX.next (some (.cells [.int .i64 4,.int .i64 (ji (YR w (ds.map DT.name))),.Ca] 26 false)):=jV;have hC:∀c,c≠sX.next->sC.heap.get c=sB.heap.get c:=fun c hc=>by rw[jV,Aw,if_neg hc]
     have gC:Ck s.enter sC p:=by rw[jV];exact gB.XD (show s.next<=sX.next by omega) hE
     have oC:sC.heap.get sX.next=some (.cells [.int .i64 4,.int .i64 (ji (YR w (ds.map DT.name))),.Ca] 26 false):=by rw[jV];exact Aw.trans (if_pos rfl)
     have wC:WD sC p ds b:=wB.of ((hC _ (by omega)).trans wB.at_) (by rw[jV];exact Qj _);have tC:=(hC s.next (by omega)).trans tB;have cC:=(hC (s.next+1) (by omega)).trans cB;have hpC:=wC.at_;have nC:sC.next=sB.next:=by rw[jV];rfl
     clear jV;have hbC:=gC.Y2 hE;have yes:gu ds w ks.length=false->Ck s.enter sC p/\WD sC p ds (b||gu ds w ks.length)/\sX.next<sC.next/\sC.heap.get s.next=some (.cells [.int .i64 (o:Nat),.str w,.int .i64 0,CJ (CH ks) ks.length 4] 96 false)/\
      sC.heap.get (s.next+1)=some (.cells Ws 26 false)/\sC.heap.get sX.next=some (.cells [.int .i64 4,.int .i64 (ji (YR w (ds.map DT.name))),.Ca] 26 false):=fun hf=>⟨gC,by rw[hf,Bool.or_false];exact wC,by omega,tC,cC,oC⟩
     obtain⟨sD,hsD⟩:∃x,x=sC.put p (some (.cells [We ds,.Ca,.Ca,.bool true] 100 false)):=⟨_,rfl⟩
     have hD:∀c,c≠p->sD.heap.get c=sC.heap.get c:=fun c hc=>by rw[hsD,Aw,if_neg hc]
     have no:gu ds w ks.length=true->(Ck s.enter sD p/\WD sD p ds (b||gu ds w ks.length)/\sX.next<sD.next/\sD.heap.get s.next=some (.cells [.int .i64 (o:Nat),.str w,.int .i64 0,CJ (CH ks) ks.length 4] 96 false)/\
      sD.heap.get (s.next+1)=some (.cells Ws 26 false)/\sD.heap.get sX.next=some (.cells [.int .i64 4,.int .i64 (ji (YR w (ds.map DT.name))),.Ca] 26 false)):=fun hf=>
      ⟨by rw[hsD];exact gC.trans Ck.put hE,wC.of (by rw[hf,Bool.or_true,hsD,Aw,if_pos rfl]) (by rw[hsD];exact Qj _),by rw[hsD];show sX.next<sC.next;omega,(hD _ (by omega)).trans tC,(hD _ (by omega)).trans cC,(hD _ (by omega)).trans oC⟩
     clear hC hD;rcases H9 w (ds.map DT.name)with hi|⟨i,hi⟩
     .have ZR:gu ds w ks.length=true:=by unfold gu;rw[hi]
      rw[hi]at oC;refine Ag (by kernel_rfl)<|Nv 1 U<|Nm U oC U (.inl U) U<|Nw U<|Tt U<|Sr<|Lv 3 U<|Ln (kw U hpC U) U<|Ld ?_;exact⟨U,sD,no ZR,hsD.symm,Ah (by repeat' constructor)⟩
     .obtain⟨eW,hiw⟩:=Pz hi;rw[List.length_map]at eW;have Yz:=A9 AS eW;unfold Y9 at Yz;have ZR:gu ds w ks.length= !decide (ds[i].params=(ks.length:Int)):=by unfold gu;rw[hi];show(!decide (((ds[i]?.map DT.params).getD 0)=_))=_;rw[Qi eW];rfl
      rw[hi]at oC;focus
       refine Ag (by kernel_rfl)<|Nv 1 U<|Nm U oC U (.inl U) U<|Nv 5 U<|Nm U hpC U (gG U) U<|Nv 1 U<|Nm U oC U (gG U) U<|Nz (kv U Yz) U U<|Nv 3 U<|Nm U tC U (gG U) U<|Nz (kn U lM) U U<|Nw U ?_;refine Cb U (fun g3=>?_) (fun g3=>?_);have h3:=nT g3;refine MQ<|Lv 3 U<|MM (BD U sz_4 U U (Ds hpC U U U)) U U<|Ld ?_;rotate_left;have h3:=nF g3;refine Ho ?_;rotate_left
      .exact⟨U,sD,no (by rw[ZR];assumption),hsD.symm,Ah (by repeat' constructor)⟩
      .exact⟨U,sC,yes (by rw[ZR];assumption),U,Ah (by repeat' constructor)⟩
    .obtain⟨rfl,rfl,rfl⟩:=hn h2;focus
      refine Cd U (fun h2=>?_) (fun h2=>?_);exact absurd h2 (by omega);refine Sk ?_;rotate_left
     exact⟨U,sB,⟨gB,by rw[Bool.or_false];exact wB,by omega,tB,cB,oB⟩,U,Ah (by repeat' constructor)⟩
   .rintro st ⟨hg,hw,aC,ht,hz,hh⟩;dsimp only;have lM:=GB (CH ks) ks.length 4;refine Sq<|Ew U<|Sb ?_;refine Ai (fun x:Nat×St×AV×List X4×List KT×Bool=>([(12,.int .i64 (x.1:Nat)),(11,.ptr sX.next 0),(8,.ptr (s.next+1) 0),(5,.ptr s.next 0),(3,.bool true),(2,Ww x.2.2.2.1),(0,.ptr p 0)],x.2.1)) (fun x=>ks.length-x.1)
     (fun x=>x.1<=ks.length/\Ck s.enter x.2.1 p/\WD x.2.1 p ds (b||bh||x.2.2.2.2.2)/\sX.next<x.2.1.next/\x.2.1.heap.get s.next=some (.cells [.int .i64 (o:Nat),.str w,.int .i64 0,CJ (CH ks) ks.length 4] 96 false)/\
      x.2.1.heap.get (s.next+1)=some (.cells Ws 26 false)/\x.2.1.heap.get sX.next=some (.cells [.int .i64 oh,.int .i64 nh,x.2.2.1] 26 false)/\Grown x.2.1 26 3 x.2.2.1 (CS x.2.2.2.2.1) x.2.2.2.2.1.length/\(∀c,C6 c x.2.2.1=true->sX.next<c)/\
      x.2.2.2.2.1.length=x.1/\x.2.2.2.1.length+Xt (ks.drop x.1)<=4000/\YH ds ks ps=(x.2.2.2.2.1++(YH ds (ks.drop x.1) x.2.2.2.1).1,(YH ds (ks.drop x.1) x.2.2.2.1).2.1,x.2.2.2.2.2||(YH ds (ks.drop x.1) x.2.2.2.1).2.2))
     (0,st,.Ca,ps,[],false) ⟨Qm _,hg,by rw[Bool.or_false];exact hw,aC,ht,hz,hh,Grown.nil _ _ _,(fun _ h=>by cases h),rfl,by rw[List.drop_zero];dsimp only;omega,by rw[List.drop_zero];rfl⟩ rfl (Ah (by repeat' constructor)) ?_
    rintro⟨i,s1,v,qs,acc,bi⟩ ⟨hi,g1,w1,n1,t1,z1,o1,xA,jk,al1,sz1,k1⟩;dsimp only at hi g1 w1 n1 t1 z1 o1 xA jk al1 sz1 k1|-;have fM:=g1.Y2 hE;clear hg hw aC ht hz hh;by_cases eW:i<ks.length
    .have Yz:=idx_tr eW;have hdi:=J2 (List.getElem_mem eW);rw[List.drop_eq_getElem_cons eW]at k1 sz1;generalize ks[i]=x at*;have sz1:qs.length+(YX x+Xt (ks.drop (i+1)))<=4000:=sz1;have hle:=Pw ds x qs;obtain⟨xo,xw,xk⟩:=x;have Yz:CC (3+1) i (CJ (CH ks) ks.length 4)=some (.Wl ([.int .i64 (xo:Nat),.str xw,.int .i64 0,CJ (CH xk) xk.length 4]++(ks.drop (i+1)).flatMap WH)):=Yz;focus
      refine Sq<|Es<|Lv 2 U<|Lo (kl U t1 U) U<|Lq (kn U lM) U<|Lw U ?_;refine Cd U (fun h2=>?_) (fun h2=>?_);refine Sk<|Sq<|Sb<|Es<|Lv 2 U<|Lo (kl U t1 U) U<|qm U<|Lq (kv U Yz) U<|Lv 3 U ?_;rotate_left;exact absurd h2 (by omega)
     refine Af U U (by kernel_rfl) U U U U (Ux ds hd p n s1 (.mk xo xw xk) qs _ _ _ (by omega) w1 fM (by omega) fun s2 g2 w2=>?_);rw[Jk]at k1;generalize cI ds (.mk xo xw xk) qs=A at*;obtain⟨⟨ao,an,ak⟩,aps,ab⟩:=A;dsimp only at k1 hle w2;have j7:=g1.trans g2 hE;have n2:=g2.Wh.next;have eJ:∀c,c<s1.next->c≠p->s2.heap.get c=s1.heap.get c:=fun c hc hp=>g2.Wh.heap c hc hp;obtain⟨a1,a2,a3,a4,a5,a6,a7⟩:=Bg (st:=s2) (z:=Ws) (cs:=[.int .i64 ao,.int .i64 an,CJ (CS ak) ak.length 3]) (T:=26);show CB _ _ _ _ _ ((_,.tuple [.agg [.int .i64 ao,.int .i64 an,CJ (CS ak) ak.length 3],Ww aps])::_) _ _;refine Lv 3 U<|Lo (kz U) U<|Ln (kw U a1 U) U<|Lw U ?_;refine Aq fun s3 aX=>?_;have aX:s3=(s2.alloc (.cells Ws 26 false)).put s2.next (some (.cells [.int .i64 ao,.int .i64 an,CJ (CS ak) ak.length 3] 26 false)):=aX
     have g3:Ck s.enter s3 p:=by rw[aX];exact j7.trans (Ck.own (j7.Y2 hE) rfl) hE
     have p3:∀c,c<s2.next->s3.heap.get c=s2.heap.get c:=fun c hc=>by rw[aX];exact a4 c hc
     have y3:s3.heap.get s2.next=some (.cells [.int .i64 ao,.int .i64 an,CJ (CS ak) ak.length 3] 26 false):=by rw[aX];exact a2
     have n3:s3.next=s2.next+1:=by rw[aX];exact a7
     clear a1 a2 a3 a4 a5 a6 a7 aX;have t3:=(p3 s.next (by omega)).trans ((eJ _ (by omega) (by omega)).trans t1);have z3:=(p3 (s.next+1) (by omega)).trans ((eJ _ (by omega) (by omega)).trans z1);have o3:=(p3 sX.next (by omega)).trans ((eJ _ (by omega) (by omega)).trans o1);have w3:WD s3 p ds (b||bh||bi||ab):=w2.of ((p3 p (by omega)).trans w2.at_) (by omega);have gr3:Grown s3 26 3 v (CS acc) acc.length:=xA.Wd (by omega) fun c hc=>(p3 c (by have:=xA.own hc;omega)).trans (eJ c (xA.own hc) (by have:=jk c hc;omega));have ur:=g3.Y2 hE;refine Ew U<|Sr<|Lv 1 U<|Lo (kl U o3 U) U<|Lo (kL U y3 U) U<|Lo (AC U zW Dj zX U U U) U ?_;refine BP gr3 U (by decide) (AH (by omega) (by decide)) (AH (by omega) (by decide)) U U U U zW Dj by_26 zX (by kernel_rfl) (by kernel_rfl) U U U U U fun v6 s6 f6 o6 c6 l6=>?_;have n6:=c6.next
     have g6:Ck s.enter s6 p:=⟨g3.Wh.trans c6 (fun _ h=>h) (fun c h=> .inr (by have:=jk c h;show s.next<=c;omega)) hE,g3.ax.trans (l6 ur)⟩
     have p6:∀c,c<=sX.next->s6.heap.get c=s3.heap.get c:=fun c hc=>c6.heap c (by omega) fun e=>by have:=jk c e;omega
     have WT:=KD ((p6 sX.next (Qj _)).trans o3) f6.sl;refine Lv 1 U<|Ln (BD U JU U U WT) U<|Ld<|Sr<|qm U ?_;refine Lq (ka (b:=1) U (by omega)) U ?_;refine Lw U ?_;have p7:∀c,c≠sX.next->(s6.put sX.next (some (.cells [.int .i64 oh,.int .i64 nh,v6] 26 false))).heap.get c=s6.heap.get c:=fun c hc=>by rw[Aw,if_neg hc]
     refine⟨(i+1,s6.put sX.next (some (.cells [.int .i64 oh,.int .i64 nh,v6] 26 false)),v6,aps,acc++[.mk ao an ak],bi||ab),⟨eW,g6.XD (by show s.next<=_;omega) hE,?_,by show sX.next<s6.next;omega,(p7 _ (by omega)).trans ((p6 _ (by omega)).trans t3),(p7 _ (by omega)).trans ((p6 _ (by omega)).trans z3),Aw.trans (if_pos U),?_,fun c hc=>by have:=o6 c hc;omega,?_,?_,?_⟩,by show ks.length-(i+1)<ks.length-i;omega,rfl,rfl,Ah (by repeat' constructor)⟩
     .dsimp only;rw[<-Bool.or_assoc];exact w3.of ((p7 _ (by omega)).trans ((p6 _ (by omega)).trans w3.at_)) n6
     .show Grown _ _ _ v6 (CS (acc++[.mk ao an ak])) (acc++[KT.mk ao an ak]).length;rw[Ot,Ql];exact f6.Wd (Qj _) fun c hc=>p7 c (by have:=o6 c hc;omega)
     .dsimp only;rw[Ql,al1];rfl
     .dsimp only at hle|-;omega
     .rw[k1];dsimp only;rw[List.append_assoc,Bool.or_assoc];rfl
    .obtain rfl:i=ks.length:=by omega
     have k1:YH ds ks ps=(acc,qs,bi):=by
      rw[k1,List.drop_length];show(acc++[],qs,bi||false)=_;rw[List.append_nil,Bool.or_false]
     focus
      refine Sq<|Es<|Lv 2 U<|Lo (kl U t1 U) U<|Lq (kn U lM) U<|Lw U ?_;refine Cd U (fun h2=>?_) (fun h2=>?_);exact absurd h2 (by omega);refine Sx<|A8 U<|Es<|Lo (kL U o1 U) U<|qm U<|Ln (kw U z1 U) U<|Lw U ?_;rotate_left
     have gr2:Grown (s1.put (s.next+1) (some (.cells [.int .i64 oh,.int .i64 nh,v] 26 false))) 26 3 v (CS acc) acc.length:=xA.Wd (Qj _) fun c hc=>by rw[Aw,if_neg (by have:=jk c hc;omega)]
     obtain⟨k2,hz,jP⟩:=GR gr2 (Jy (n:=36) _) (Fp _ 39) [];rw[List.append_nil]at hz;have sk:T=(.mk oh nh acc,qs,bh||bi):=by rw[sk,k1]
     refine Se (Al ⟨.inl U,_,rfl,_,A5 U EI Dj (Aw.trans (if_pos U)) (Qj _) (Aa U U),fin _ _ _ k2 ?_ (fun c hc=>by have:=jk c (jP c hc);omega) (g1.XD (Nat.le_succ _) hE) (wP _ ?_)⟩)
     .rw[sk];have h1:Cs.many (Cs (s1.put (s.next+1) (some (.cells [.int .i64 oh,.int .i64 nh,v] 26 false))) 0 38) [.int .i64 oh,.int .i64 nh,v] []=some (W4 (.mk oh nh acc),k2):=by
       show((((Cs _ 0 38 v []).bind _).bind _).bind _)=_;rw[hz];rfl
      have h2:Cs (s1.put (s.next+1) (some (.cells [.int .i64 oh,.int .i64 nh,v] 26 false))) 0 39 (.agg [.int .i64 oh,.int .i64 nh,v]) []=some (.agg (W4 (.mk oh nh acc)),k2):=by
       show((Cs.many (Cs _ 0 38) [.int .i64 oh,.int .i64 nh,v] []).bind _)=_;rw[h1];rfl
      have h3:∀j,Cs (s1.put (s.next+1) (some (.cells [.int .i64 oh,.int .i64 nh,v] 26 false))) 0 39 (Ww qs) j=some (Ww qs,j):=fun j=>FD;show((Cs _ 0 39 (.agg [.int .i64 oh,.int .i64 nh,v]) []).bind _)=_;rw[h2];show(((Cs _ 0 39 (Ww qs) k2).bind _).bind _)=_;rw[h3];rfl
     .rw[sk,<-Bool.or_assoc];exact w1
end Go.Proofs.YtfhimfcbphepeaaGreatDoor.Ty
open Go Am
namespace Am
theorem BO {E:Env} {KP:AV->Sl->St->Prop} {all rest:List Oper} {fr:Fr} {l:Sl} {st:St} {K:Sl->St->Prop} (h:∀s',s'=st->CB E KP all rest fr l s' K):CB E KP all rest fr l st K:=h st rfl
end Am
namespace Go.Proofs.YtfhimfcbphepeaaGreatDoor.Ty
def YL:Nat->List X4->List (X4×AV)
 |_,[]=>[]
 |k,w::l=>(w,.int .i64 (k:Nat))::YL (k+1) l
theorem GF:∀(k:Nat) (l:List X4),(YL k l).length=l.length
 |_,[]=>rfl
 |k,_::l=>congrArg Nat.succ (GF (k+1) l)
theorem Iu (w:X4):∀(k:Nat) (l:List X4),getM w (YL k l)=(YR w l).map fun j=> .int .i64 ((k+j:Nat):Int)
 |_,[]=>rfl
 |k,a::l=>by
  unfold YL getM YR;by_cases h:w=a
  .rw[if_pos h,if_pos h.symm];rfl
  .rw[if_neg h,if_neg (fun e=>h e.symm),Iu w (k+1) l,Option.map_map]
   congr 1
   funext j
   show AV.int .i64 ((k+1+j:Nat):Int)= .int .i64 ((k+(j+1):Nat):Int);rw[show k+1+j=k+(j+1) by omega]
theorem Mo:∀(k:Nat) (l:List X4) (w:X4),YL k (l++[w])=YL k l++[(w,.int .i64 ((k+l.length:Nat):Int))]
 |_,[],_=>rfl
 |k,a::l,w=>by
  show(a,AV.int .i64 (k:Nat))::YL (k+1) (l++[w])=_;rw[Mo (k+1) l w];show _=(a,AV.int .i64 (k:Nat))::(YL k.succ l++[(w,.int .i64 ((k+(l.length+1):Nat):Int))])
  rw[show k+1+l.length=k+(l.length+1) by omega]
def ae (w:X4):Bool:=match w with
 | []=>false
 |c::_=>C5 97 122 c.toNat
mutual
def wfS:Sh->Bool
 | .mk o w ks=>(if o=100 then ae w&&ks.isEmpty else if o=101 then !w.isEmpty&& !ae w else w.isEmpty)&&lN ks
def lN:List Sh->Bool
 | []=>true
 |x::l=>wfS x&&lN l
end
theorem xD:∀ {l:List Sh} {x:Sh},lN l=true->x∈l->wfS x=true
 |u::l,x,h,hx=>by
  obtain⟨h1,h2⟩:=Bool.and_eq_true_iff.1 (show(wfS u&&lN l)=true from h);rcases Qk.1 hx with rfl|hx
  .exact h1
  .exact xD h2 hx
abbrev xE (ds:List DT):List AV:=ds.map fun d=>AV.int .i64 d.params
structure YD (s:St) (y bd bv:Nat) (pv:AV) (ds:List DT) (ps:List X4):Prop where
 at_:s.heap.get y=some (.cells [.map bd,pv,.map bv,.bool true] 85 false)
 dm:s.heap.get bd=some (.map (Xs 0 (YL 0 (ds.map DT.name))) ds.length)
 pr:Grown s 3 1 pv (xE ds) ds.length
 vm:s.heap.get bv=some (.map (Xs 0 (YL 0 ps)) ps.length)
 ly:y<s.next
 ld:bd<s.next
 lv:bv<s.next
 ny:y≠bv
 nd:bd≠bv
 np:C6 bv pv=false
theorem YD.Wd {s s':St} {y bd bv:Nat} {pv:AV} {ds:List DT} {ps:List X4} (h:YD s y bd bv pv ds ps) (hn:s.next<=s'.next) (hh:∀c,c<s.next->c≠bv->s'.heap.get c=s.heap.get c) {ps':List X4} (hv:s'.heap.get bv=some (.map (Xs 0 (YL 0 ps')) ps'.length)):YD s' y bd bv pv ds ps':=
 ⟨(hh y h.ly h.ny).trans h.at_,(hh bd h.ld h.nd).trans h.dm,h.pr.Wd hn (fun c hc=>hh c (h.pr.own hc) fun e=>by rw[e,h.np]at hc;cases hc),hv,Nat.lt_of_lt_of_le h.ly hn,Nat.lt_of_lt_of_le h.ld hn,Nat.lt_of_lt_of_le h.lv hn,h.ny,h.nd,h.np⟩
def OfC (ds:List DT) (y bd bv:Nat) (pv:AV) (n:Nat):Prop:=∀(s:St) (x:Sh) (ps:List X4) (R RP:AV->St->Prop),iB x<=n->wfS x=true->YD s y bd bv pv ds ps->s.bound<=s.next->ps.length+YX x<=4000->
 ((cI ds x ps).2.2=false->∀s',Ck s s' bv->YD s' y bd bv pv ds (cI ds x ps).2.1->R (.agg (W4 (cI ds x ps).1)) s')->((cI ds x ps).2.2=true->∀s',Ck s s' bv->RP (Z0 7) s')->CE (EK LF) 36 [.ptr y 0,Yp x] s R RP
theorem idx_sh {l:List Sh} {i:Nat} (h:i<l.length):CC (0+1) i (CJ (WK l) l.length 1)=some (.Wl ([Yp l[i]]++(l.drop (i+1)).flatMap fun x=>[Yp x])):=by
 have e:CJ (WK l) l.length 1=CM (fun x=>[Yp x]) (0+1) l:=by
  rw[IT (by omega),Dq];unfold CM;rw[List.map_eq_flatMap]
 rw[e];exact A9 (fun _=>rfl) h
theorem Ej {s:St} {b:Bool} (au:s.bound<=s.next) {R RP:AV->St->Prop} (hR:b=false->R (.tuple []) s) (hP:b=true->RP (Z0 7) s):CE (EK LF) 91 [.bool b] s R RP:=by
 refine CE.unit (fn:=Tryz.f91) U (by kernel_rfl) U U U U ?_;focus
  refine Sr<|qm U ?_;refine BI (k:=2) U (fun g1=>?_) (fun g1=>?_);refine Af U U (by kernel_rfl) U U U U (FW ?_);rotate_left;refine Lo (Av U U (by kernel_rfl) U (FV)) U<|Ld ?_;rotate_left
 .exact⟨U,hP g1⟩
 .exact⟨.inr U,rfl,fun _=>hR g1,hR g1⟩
theorem of_run (ds:List DT) (hd:ds.length<=1000) (y bd bv:Nat) (pv:AV):∀n,OfC ds y bd bv pv n
 |0=>fun s x ps R RP h _ _ _ _ _ _=>by rw[QZ]at h;omega
 |n+1=>by
  rintro s ⟨o,w,ks⟩ ps R RP zL hwf h hb Xn hR hP;have rZ:dh ks<=n:=by have:dh ks+1<=n+1:=zL;omega
  have hE:s.enter.bound<=s.enter.next:=Qj _;have hszs:YX (.mk o w ks)=Xt ks+1:=rfl;have fX:=H6 ks;obtain⟨hw,hwk⟩:=Bool.and_eq_true_iff.1 (show((if o=100 then ae w&&ks.isEmpty else if o=101 then !w.isEmpty&& !ae w else w.isEmpty)&&lN ks)=true from hwf);refine Ar U ?_;have e:Yp (.mk o w ks)= .Wl [.str w,CJ (WK ks) ks.length 1]:=rfl;rw[e];obtain⟨sA,Yr⟩:∃x,x=s.enter.alloc (.cells Ws 26 false):=⟨_,rfl⟩
  have gA:Ck s.enter sA bv:=by rw[Yr];exact Ck.alloc hE
  have yA:YD sA y bd bv pv ds ps:=h.Wd (by rw[Yr];exact Nat.le_succ _) (fun c hc _=>by rw[Yr];exact Ao hc) (by rw[Yr];exact(Ao h.lv).trans h.vm);have cA:sA.heap.get s.next=some (.cells Ws 26 false):=by rw[Yr];exact A4
  have nA:sA.next=s.next+1:=by rw[Yr];rfl
  have hlv:=h.lv;have hly:=h.ly;have fe:=gA.Y2 hE;obtain⟨T,hT⟩:∃T,T=cI ds (.mk o w ks) ps:=⟨_,rfl⟩
  rw[<-hT]at hR hP;have fin:∀(st:St) (cs:List AV) (Zt:List Nat),Cs.many (Cs st 0 39) cs []=some (W4 T.1,Zt)->(∀c∈Zt,s.next<=c)->Ck s.enter st bv->YD st y bd bv pv ds T.2.1->(∀c,C6 c pv=true->c<s.next)->T.2.2=false->
   ∃cr,leave (EK LF) 36 s (.agg cs) st=some cr/\match cr with
    | .same v=>R v s
    | .val v s'=>R v s'
    | .WR _ _=>False:=by
   intro st cs Zt hz gD g r Yc ZR;refine H7 U (w:= .agg (W4 T.1)) (ks:=Zt) ?_ (fun c hc=>by rw[g.Wh.bound];exact gD c hc) (F2 _ _ _) (fun hl=>hR ZR s Ck.refl ?_) fun hl=>hR ZR _ ((g.kill gD hE).back hb) ?_
   .show((Cs.many (Cs st 0 39) cs []).bind _)=_;rw[hz];rfl
   .exact⟨h.at_,h.dm,h.pr,(g.ax.same bv h.lv (by rw[hl];exact List.not_mem_nil)).symm.trans r.vm,h.ly,h.ld,h.lv,h.ny,h.nd,h.np⟩
   .have off:∀c,c<s.next->(kill st Zt).heap.get c=st.heap.get c:=fun c hc=>GO fun hm=>by have:=gD c hm;omega
    exact⟨(off y h.ly).trans r.at_,(off bd h.ld).trans r.dm,r.pr.Wd (by show st.next<=(kill st Zt).next;rw[BQ];exact Qj _) fun c hc=>off c (Yc c hc),(off bv h.lv).trans r.vm,by show y<(kill st Zt).next;rw[BQ];exact r.ly,by show bd<(kill st Zt).next;rw[BQ];exact r.ld,by show bv<(kill st Zt).next;rw[BQ];exact r.lv,h.ny,h.nd,h.np⟩
  have Yc:∀c,C6 c pv=true->c<s.next:=fun c hc=>h.pr.own hc;have qH:∀(st:St) (T1 T2:Int),T.1= .mk T1 T2 []->Ck s.enter st bv->YD st y bd bv pv ds T.2.1->T.2.2=false->
   ∃cr,leave (EK LF) 36 s (.agg [.int .i64 T1,.int .i64 T2,.Ca]) st=some cr/\match cr with
    | .same v=>R v s
    | .val v s'=>R v s'
    | .WR _ _=>False:=fun st T1 T2 e1 g r ZR=>fin st _ [] (by rw[e1];rfl) (fun c hc=>by cases hc) g r Yc ZR
  have yK:∀ {st ZD:St} {qs:List X4},YD st y bd bv pv ds qs->st.next<=ZD.next->(∀c,c<s.next->ZD.heap.get c=st.heap.get c)->YD ZD y bd bv pv ds qs:=fun r hn off=>
   ⟨(off y h.ly).trans r.at_,(off bd h.ld).trans r.dm,r.pr.Wd hn fun c hc=>off c (Yc c hc),(off bv h.lv).trans r.vm,Nat.lt_of_lt_of_le r.ly hn,Nat.lt_of_lt_of_le r.ld hn,Nat.lt_of_lt_of_le r.lv hn,h.ny,h.nd,h.np⟩
  have yP:∀ {st:St} {qs:List X4} (o:Option Cw),YD st y bd bv pv ds qs->YD (st.put s.next o) y bd bv pv ds qs:=fun o r=>yK r (Qj _) fun c hc=>Aw.trans (if_neg (by omega));refine Es<|Lo (kz U) U<|Ld<|Sq ?_;refine Aq fun sX WZ=>?_;obtain rfl:sX=sA:=WZ.trans Yr.symm;clear WZ Yr;have j4:=yA.at_;have mm:=yA.vm;have pV:=Iu w 0 ps;by_cases h0:o=100
  .subst h0;rw[if_pos rfl]at hw;obtain⟨hw,tt⟩:=Bool.and_eq_true_iff.1 hw;obtain rfl:ks=[]:=List.isEmpty_iff.1 tt;obtain⟨c,w,rfl⟩:∃c w',w=c::w':=by
    cases w with
    |nil=>cases hw
    |cons c w=>exact⟨c,w,rfl⟩
   have oz:LF 90 [.int .u8 (((c::w).getD 0 0).toNat:Nat)]=some (.bool true):=by
    have:=wg (n:=(((c::w).getD 0 0).toNat:Nat));rw[show C5 97 122 (((c::w).getD 0 0).toNat:Nat)=true from(Bool.and_eq_true_iff.1 hw).1]at this;exact this
   by_cases hi:(c::w)=[105,110,116]
   .have e1:T=(.mk 2 0 [],ps,false):=by rw[hT];unfold cI;rw[if_pos rfl,if_pos hi]
    have g1:Cp (c::w) ({data:= #[105,110,116]}:ByteArray).data.toList=true:=by rw[hi];rfl
    refine Es<|Lv 4 U<|Lq (A2 U CT U U U U) U<|Ld<|HO U g1<|Es<|Lv 1 U<|Ln (kw U cA U) U<|Ld ?_;exact Se (Al ⟨.inl U,_,U,_,A5 U EI Dj (Aw.trans (if_pos U)) (Qj _) U,qH _ 2 0 (by rw[e1]) (gA.XD (Qj _) hE) (by rw[e1];exact yP _ yA) (by rw[e1])⟩)
   .rcases H9 (c::w) ps with hn|⟨k,hk⟩
    .have e1:T=(.mk 1 ps.length [],ps++[c::w],false):=by rw[hT];unfold cI;rw[if_pos rfl,if_neg hi,hn]
     have pV:getM (c::w) (YL 0 ps)=none:=by rw[pV,hn];rfl
     have fX:=Up (z:= .int .i64 0) mm pV;have tE:=Mt mm;rw[GF]at tE;have hlvX:=yA.lv;have WT:=Mq (w:=c::w) (v:= .int .i64 ((ps.length:Nat):Int)) (by rw[mm,GF]) (fun x hx=>by rw[pV]at hx;cases hx);focus
      refine Es<|Lv 4 U<|Lq (A2 U CT U U U U) U<|Ld ?_;refine Cb U (fun g1=>?_) (fun g1=>?_);have h1:=bT g1;exact absurd h1 (by omega);have h1:=bF g1;refine Sk<|Sq<|Es<|Lv 4 U<|Lq (A2 U CT U U U U) U<|Lv 5 U ?_;refine Lh U U (A0 (n:=0) U CT U U (by first|assumption|omega|(simp only[LL];omega))) ?_;refine Lg U U (kc U (oz))<|Lw U<|Tt U<|Ag (by kernel_rfl)<|Nv 3 U<|Nm U j4 U (.inl U) U<|Nv 4 U<|FN U p8 z_3 qE U U fX U (.inl U) U U<|Nw U<|Es<|Lv 6 U<|Lg U U (kl U j4 U)<|Lv 2 U ?_;rotate_left
     refine Af U U (by kernel_rfl) U U U U (Ej fe (fun _=>?_) fun hb=>by cases hb);have hpm:jg (c::w) (.int .i64 ((ps.length:Nat):Int)) (YL 0 ps)=YL 0 (ps++[c::w]):=by
      unfold jg;rw[if_pos pV,Mo,Nat.zero_add]
     rw[hpm]at WT;obtain⟨sC,jV⟩:∃x,x=ov sX bv (some (.map (Xs 0 (YL 0 (ps++[c::w]))) (YL 0 (ps++[c::w])).length)):=⟨_,rfl⟩
     have gC:Ck s.enter sC bv:=by rw[jV];exact gA.trans ⟨Rb,Us⟩ hE
     have pC:∀c,c≠bv->sC.heap.get c=sX.heap.get c:=fun c hc=>by rw[jV];exact cH.trans (if_neg hc)
     have cC:=(pC s.next (by omega)).trans cA;have yC:YD sC y bd bv pv ds (ps++[c::w]):=yA.Wd (by rw[jV];exact Qj _) (fun c _ hc=>pC c hc) (by rw[jV];refine(cH.trans (if_pos rfl)).trans ?_;rw[GF]);rw[jV]at cC;refine Ld<|Sq<|Ew U<|Tt U<|Es<|Lv 3 U<|Lo (kl U j4 U) U<|Lo (VU U U U U p8 U tE) U<|Lw U<|Eo (by kernel_rfl)<|Nv 3 U<|Nm U j4 U (.inl U) U<|Nv 5 U<|Ik (.inl U) p8 qE U U U WT (by first|assumption|omega) U (by kernel_rfl) (.inl U) U U<|BT<|Es ?_;refine Lv 2 U<|Ln (kw U cC U) U<|Ld ?_;show Cz _ _ _ _ ((ov sX bv (some (.map (Xs 0 (YL 0 (ps++[c::w]))) (YL 0 (ps++[c::w])).length))).put s.next (some (.cells [.int .i64 1,.int .i64 (ps.length:Nat),.Ca] 26 false))) _;rw[<-jV];exact Se (Al ⟨.inl U,_,U,_,A5 U EI Dj (Aw.trans (if_pos U)) (Qj _) U,qH _ 1 ps.length (by rw[e1]) (gC.XD (Qj _) hE) (by rw[e1];exact yP _ yC) (by rw[e1])⟩)
    .have e1:T=(.mk 1 k [],ps,false):=by rw[hT];unfold cI;rw[if_pos rfl,if_neg hi,hk]
     rw[hk]at pV;have pV:getM (c::w) (YL 0 ps)=some (.int .i64 (k:Nat)):=by rw[pV];show some (AV.int .i64 ((0+k:Nat):Int))=_;rw[Nat.zero_add]
     have fX:=Q4 (z:= .int .i64 0) mm pV;focus
      refine Es<|Lv 4 U<|Lq (A2 U CT U U U U) U<|Ld ?_;refine Cb U (fun g1=>?_) (fun g1=>?_);have h1:=bT g1;exact absurd h1 (by omega);have h1:=bF g1;refine Sk<|Sq<|Es<|Lv 4 U<|Lq (A2 U CT U U U U) U<|Lv 5 U ?_;refine Lh U U (A0 (n:=0) U CT U U (by first|assumption|omega|(simp only[LL];omega))) ?_;refine Lg U U (kc U (oz))<|Lw U<|Tt U<|Ag (by kernel_rfl)<|Nv 3 U<|Nm U j4 U (.inl U) U<|Nv 4 U<|FN U p8 z_3 qE U U fX U (.inl U) U U<|Nw U<|Es<|Lv 9 U ?_;rotate_left
     refine Af U U (by kernel_rfl) U U U U (Ej fe (fun _=>?_) fun hb=>by cases hb);refine Ld<|Sq<|Ew U<|Tf U<|Sk<|Es<|Lv 2 U<|Ln (kw U cA U) U<|Ld ?_;exact Se (Al ⟨.inl U,_,U,_,A5 U EI Dj (Aw.trans (if_pos U)) (Qj _) U,qH _ 1 k (by rw[e1]) (gA.XD (Qj _) hE) (by rw[e1];exact yP _ yA) (by rw[e1])⟩)
  .have hi:Cp w ({data:= #[105,110,116]}:ByteArray).data.toList=false:=by
    rw[AB];refine decide_eq_false fun e=>?_;rw[show w=[105,110,116]from e,if_neg h0]at hw;split at hw<;>cases hw
   refine Es<|Lv 4 U<|Lq (A2 U CT U U U U) U<|Ld<|HP U hi<|Sk<|Sq ?_;refine Hp (fun _:Unit=>([(31,.bool false),(4,.ptr s.next 0),(1,.Wl [.str w,CJ (WK ks) ks.length 1]),(0,.ptr y 0)],sX)) (fun _=>True) ?_ fun _ _=>?_
   .rw[if_neg h0]at hw;cases w with
    |nil=>
     refine Sr<|Lv 4 U<|Lq (A2 U CT U U U U) U<|Lw U ?_;exact⟨U,U,(),trivial,U,Ah (by repeat' constructor)⟩
    |cons c w=>
     have XT:ae (c::w)=false:=by
      cases hh:ae (c::w)with
      |false=>rfl
      |true=>rw[hh]at hw;split at hw<;>cases hw
     have oz:LF 90 [.int .u8 (((c::w).getD 0 0).toNat:Nat)]=some (.bool false):=by
      have:=wg (n:=(((c::w).getD 0 0).toNat:Nat));rw[show C5 97 122 (((c::w).getD 0 0).toNat:Nat)=false from XT]at this;exact this
     refine Sr<|Lv 4 U<|Lq (A2 U CT U U U U) U<|Lv 5 U ?_;refine Lh U U (A0 (n:=0) U CT U U (by first|assumption|omega|(simp only[LL];omega))) ?_;refine Lg U U (kc U (oz))<|Lw U ?_;exact⟨U,U,(),trivial,U,Ah (by repeat' constructor)⟩
   dsimp only;obtain⟨a1,a2,a3,a4,a5,a6,a7⟩:=Bg (st:=sX) (z:=Ws) (cs:=[.int .i64 3,.int .i64 0,.Ca]) (T:=26);refine Tf U<|Sk<|Es<|Lv 1 U<|Lo (kz U) U<|Ln (kw U a1 U) U<|Ld<|Sq ?_;refine Aq fun sB W6=>?_;have W6:sB=(sX.alloc (.cells Ws 26 false)).put sX.next (some (.cells [.int .i64 3,.int .i64 0,.Ca] 26 false)):=W6;have gB:Ck s.enter sB bv:=by rw[W6];exact gA.trans (Ck.own fe rfl) hE
   have pB:∀c,c<sX.next->sB.heap.get c=sX.heap.get c:=fun c hc=>by rw[W6];exact a4 c hc
   have yB:YD sB y bd bv pv ds ps:=yA.Wd (by rw[W6];exact Nat.le_succ _) (fun c hc _=>pB c hc) ((pB bv yA.lv).trans yA.vm);have cB:=(pB s.next (by omega)).trans cA;have oB:sB.heap.get sX.next=some (.cells [.int .i64 3,.int .i64 0,.Ca] 26 false):=by rw[W6];exact a2
   have nB:sB.next=sX.next+1:=by rw[W6];exact a7
   have hbB:=gB.Y2 hE;clear a1 a2 a3 a4 a5 a6 a7 W6;obtain⟨oh,nh,bh,sk,hy,hn⟩:∃(oh nh:Int) (bh:Bool),T=(.mk oh nh (YH ds ks ps).1,(YH ds ks ps).2.1,bh||(YH ds ks ps).2.2)/\(o=101->oh=4/\nh=ji (YR w (ds.map DT.name))/\bh=gu ds w ks.length)/\(o≠101->oh=3/\nh=0/\bh=false):=by
    rw[hT];unfold cI;rw[if_neg h0];by_cases h2:o=101
    .exact⟨_,_,_,by rw[if_pos h2],fun _=>⟨rfl,rfl,rfl⟩,fun h=>absurd h2 h⟩
    .exact⟨_,_,_,by rw[if_neg h2,Bool.false_or],fun h=>absurd h h2,fun _=>⟨rfl,rfl,rfl⟩⟩
   refine Hp (fun _:Unit=>([(77,.bool (!Cp w [])),(7,.ptr sX.next 0),(4,.ptr s.next 0),(1,.Wl [.str w,CJ (WK ks) ks.length 1]),(0,.ptr y 0)],sB)) (fun _=>True) ?_ fun _ _=>?_
   .refine Sr ?_;refine Lv 4 U<|Lq (A2 U CT U U U U) U<|Ld ?_;exact⟨U,U,(),trivial,U,Ah (by repeat' constructor)⟩
   dsimp only;refine HN (fun x:St=>([(7,.ptr sX.next 0),(4,.ptr s.next 0),(1,.Wl [.str w,CJ (WK ks) ks.length 1]),(0,.ptr y 0)],x)) (fun x=>bh=false/\Ck s.enter x bv/\YD x y bd bv pv ds ps/\sX.next<x.next/\
    x.heap.get s.next=some (.cells Ws 26 false)/\x.heap.get sX.next=some (.cells [.int .i64 oh,.int .i64 nh,.Ca] 26 false)) ?_ ?_
   .by_cases h2:o=101
    .obtain⟨rfl,rfl,rfl⟩:=hy h2;rw[if_neg h0,if_pos h2]at hw;have YM:Cp w []=false:=by
      cases w with
      |nil=>cases hw
      |cons c w=>rfl
     rw[YM];have pV:=Iu w 0 (ds.map DT.name);have uN:=yB.dm;have hatB:=yB.at_;rcases H9 w (ds.map DT.name)with hi|⟨i,hi⟩
     .have ZR:gu ds w ks.length=true:=by unfold gu;rw[hi]
      have pV:getM w (YL 0 (ds.map DT.name))=none:=by rw[pV,hi];rfl
      have fX:=Up (z:= .int .i64 0) uN pV;refine Tt U<|Ag (by kernel_rfl)<|Nv 3 U<|Nm U hatB U (.inl U) U<|Nv 4 U<|FN U p8 z_3 qE U U fX U (.inl U) U U<|Nw U<|Ag (by kernel_rfl)<|Nv 17 U ?_;exact HK U (by kernel_rfl) U U U (Ej (Qj _) (fun hf=>by cases hf) fun _=>⟨rfl,rfl,hP (by rw[sk,ZR];rfl) _ (gB.back hb)⟩) (by kernel_rfl) (by kernel_rfl) (.inl U) U U
     .obtain⟨eW,hiw⟩:=Pz hi;rw[List.length_map]at eW;have ZR:gu ds w ks.length= !decide (ds[i].params=(ks.length:Int)):=by unfold gu;rw[hi];show(!decide (((ds[i]?.map DT.params).getD 0)=_))=_;rw[Qi eW];rfl
      have pV:getM w (YL 0 (ds.map DT.name))=some (.int .i64 (i:Nat)):=by rw[pV,hi];show some (AV.int .i64 ((0+i:Nat):Int))=_;rw[Nat.zero_add]
      have fX:=Q4 (z:= .int .i64 0) uN pV;obtain⟨b,hpv,nV,hbg,fh,au⟩:=yB.pr.resolve_left fun h=>by omega
      have qG:CC (0+1) i pv=some (.ptr b (0+i*(0+1))):=by
       rw[hpv];show(bif Nat.blt i ds.length then some (AV.ptr b (0+i*(0+1)))else none)=_;rw[show Nat.blt i ds.length=true from Qd eW];rfl
      have hld:Wy (EK LF) 3 sB (.ptr b (0+i*(0+1)))=some (.int .i64 ds[i].params):=AI ag_3 zV hbg (by rw[Nat.zero_add,Nat.zero_add,Nat.mul_one,List.getElem?_map,Qi eW];rfl);have lM:=GB (WK ks) ks.length 1;refine Tt U<|Ag (by kernel_rfl)<|Nv 3 U<|Nm U hatB U (.inl U) U<|Nv 4 U<|FN U p8 z_3 qE U U fX U (.inl U) U U<|Nw U<|Ag (by kernel_rfl)<|Nv 6 U<|Nm U hatB U (gG U) U<|Nv 1 U<|Nz (kv U qG) U U<|B5 U U hld U (gG U) U U<|Nv 4 U<|Nz (kn U lM) U U<|Nv 2 U ?_;refine HK U (by kernel_rfl) U U U (Ej (Qj _) (fun hf=>⟨rfl,?_⟩) fun ht=>⟨rfl,rfl,hP (by rw[sk,ZR];show(!decide (ds[i].params=(ks.length:Int))||_)=true;rw[ht];rfl) _ (gB.back hb)⟩) (by kernel_rfl) (by kernel_rfl) (.inl U) U U;refine Sr<|Lv 2 U<|Ln (kw U oB U) U<|Ld ?_
      have pC:∀c,c≠sX.next->(sB.put sX.next (some (.cells [.int .i64 4,.int .i64 i,.Ca] 26 false))).heap.get c=sB.heap.get c:=fun c hc=>Aw.trans (if_neg hc);exact⟨rfl,sB.put sX.next (some (.cells [.int .i64 4,.int .i64 i,.Ca] 26 false)),⟨by rw[ZR];exact hf,gB.XD (show s.next<=sX.next by omega) hE,yK yB (Qj _) (fun c hc=>pC c (by omega)),by show sX.next<sB.next;omega,(pC _ (by omega)).trans cB,by rw[hi];exact Aw.trans (if_pos U)⟩,rfl,Ah (by repeat' constructor)⟩
    .obtain⟨rfl,rfl,rfl⟩:=hn h2;rw[if_neg h0,if_neg h2]at hw;obtain rfl:w=[]:=List.isEmpty_iff.1 hw;refine Tf U<|Sk ?_;exact⟨U,sB,⟨U,gB,yB,by omega,cB,oB⟩,U,Ah (by repeat' constructor)⟩
   .rintro st ⟨hbh,hg,hy,aC,hz,hh⟩;dsimp only;have lM:=GB (WK ks) ks.length 1;rw[hbh,Bool.false_or]at sk;refine Sq<|Es<|Lv 4 U<|Lq (kn U lM) U<|Lw U<|Sb ?_;refine Ai (fun x:Nat×St×AV×List X4×List KT=>([(115,.int .i64 (x.1:Nat)),(114,.int .i64 (ks.length:Nat)),(113,CJ (WK ks) ks.length 1),(7,.ptr sX.next 0),(4,.ptr s.next 0),(0,.ptr y 0)],x.2.1)) (fun x=>ks.length-x.1)
     (fun x=>x.1<=ks.length/\Ck s.enter x.2.1 bv/\YD x.2.1 y bd bv pv ds x.2.2.2.1/\sX.next<x.2.1.next/\x.2.1.heap.get s.next=some (.cells Ws 26 false)/\x.2.1.heap.get sX.next=some (.cells [.int .i64 oh,.int .i64 nh,x.2.2.1] 26 false)/\Grown x.2.1 26 3 x.2.2.1 (CS x.2.2.2.2) x.2.2.2.2.length/\(∀c,C6 c x.2.2.1=true->sX.next<c)/\
      x.2.2.2.2.length=x.1/\x.2.2.2.1.length+Xt (ks.drop x.1)<=4000/\YH ds ks ps=(x.2.2.2.2++(YH ds (ks.drop x.1) x.2.2.2.1).1,(YH ds (ks.drop x.1) x.2.2.2.1).2.1,(YH ds (ks.drop x.1) x.2.2.2.1).2.2))
     (0,st,.Ca,ps,[]) ⟨Qm _,hg,hy,aC,hz,hh,Grown.nil _ _ _,(fun _ h=>by cases h),rfl,by rw[List.drop_zero];dsimp only;omega,by rw[List.drop_zero];rfl⟩ rfl (Ah (by repeat' constructor)) ?_
    rintro⟨i,s1,v,qs,acc⟩ ⟨hi,g1,y1,n1,z1,o1,xA,jk,al1,sz1,k1⟩;dsimp only at hi g1 y1 n1 z1 o1 xA jk al1 sz1 k1|-;have fM:=g1.Y2 hE;clear hg hy aC hz hh;by_cases eW:i<ks.length
    .have Yz:=idx_sh eW;have hdi:=J2 (List.getElem_mem eW);have hwi:=xD hwk (List.getElem_mem eW);rw[List.drop_eq_getElem_cons eW]at k1 sz1;generalize ks[i]=x at*;have sz1:qs.length+(YX x+Xt (ks.drop (i+1)))<=4000:=sz1;have hle:=Pw ds x qs;rw[Jk]at k1;obtain⟨cx,hcx⟩:=Eb x;rw[hcx]at Yz;focus
      refine Ew U<|Sq ?_;refine Cb U (fun g2=>?_) (fun g2=>?_);have h2:=dT g2;refine Sk<|Sq<|Sb<|Es<|Lq (kv U Yz) U<|Lw U<|Es<|Lv 2 U ?_;rotate_left;have h2:=dF g2;exact absurd h2 (by omega)
     rw[<-hcx];refine Af U U (by kernel_rfl) U U U U (of_run ds hd y bd bv pv n s1 x qs _ _ (by omega) hwi y1 fM (by omega) (fun hbx s2 g2 y2=>?_) fun hbx s2 g2=>⟨rfl,hP (by rw[sk,k1,hbx];rfl) _ ((g1.trans g2 hE).back hb)⟩);generalize cI ds x qs=A at*;obtain⟨⟨ao,an,ak⟩,aps,ab⟩:=A;dsimp only at k1 hle y2 hbx;subst hbx;rw[Bool.false_or]at k1;have j7:=g1.trans g2 hE;have n2:=g2.Wh.next;have eJ:∀c,c<s1.next->c≠bv->s2.heap.get c=s1.heap.get c:=fun c hc hp=>g2.Wh.heap c hc hp;obtain⟨a1,a2,a3,a4,a5,a6,a7⟩:=Bg (st:=s2) (z:=Ws) (cs:=[.int .i64 ao,.int .i64 an,CJ (CS ak) ak.length 3]) (T:=26);show CB _ _ _ _ _ ((_,.agg [.int .i64 ao,.int .i64 an,CJ (CS ak) ak.length 3])::_) _ _;refine Lo (kz U) U<|Ln (kw U a1 U) U<|Ld<|Sr<|Lv 1 U ?_;refine BO fun s3 aX=>?_
     have aX:s3=(s2.alloc (.cells Ws 26 false)).put s2.next (some (.cells [.int .i64 ao,.int .i64 an,CJ (CS ak) ak.length 3] 26 false)):=aX;have g3:Ck s.enter s3 bv:=by rw[aX];exact j7.trans (Ck.own (j7.Y2 hE) rfl) hE
     have p3:∀c,c<s2.next->s3.heap.get c=s2.heap.get c:=fun c hc=>by rw[aX];exact a4 c hc
     have y3:s3.heap.get s2.next=some (.cells [.int .i64 ao,.int .i64 an,CJ (CS ak) ak.length 3] 26 false):=by rw[aX];exact a2
     have n3:s3.next=s2.next+1:=by rw[aX];exact a7
     clear a1 a2 a3 a4 a5 a6 a7 aX;have z3:=(p3 s.next (by omega)).trans ((eJ _ (by omega) (by omega)).trans z1);have o3:=(p3 sX.next (by omega)).trans ((eJ _ (by omega) (by omega)).trans o1);have yd3:YD s3 y bd bv pv ds aps:=yK y2 (by omega) fun c hc=>p3 c (by omega);have gr3:Grown s3 26 3 v (CS acc) acc.length:=xA.Wd (by omega) fun c hc=>(p3 c (by have:=xA.own hc;omega)).trans (eJ c (xA.own hc) (by have:=jk c hc;omega));have ur:=g3.Y2 hE;refine Lo (kl U o3 U) U<|Lo (kL U y3 U) U<|Lo (AC U zW Dj zX U U U) U ?_;refine BP gr3 U (by decide) (AH (by omega) (by decide)) (AH (by omega) (by decide)) U U U U zW Dj by_26 zX (by kernel_rfl) (by kernel_rfl) U U U U U fun v6 s6 f6 o6 c6 l6=>?_;have n6:=c6.next;have g6:Ck s.enter s6 bv:=⟨g3.Wh.trans c6 (fun _ h=>h) (fun c h=> .inr (by have:=jk c h;show s.next<=c;omega)) hE,g3.ax.trans (l6 ur)⟩
     have p6:∀c,c<=sX.next->s6.heap.get c=s3.heap.get c:=fun c hc=>c6.heap c (by omega) fun e=>by have:=jk c e;omega
     have WT:=KD ((p6 sX.next (Qj _)).trans o3) f6.sl;refine Lv 1 U<|Ln (BD U JU U U WT) U<|Ld<|Sr ?_;refine Lq (ka (b:=1) U (by omega)) U ?_;refine Lw U ?_;have p7:∀c,c≠sX.next->(s6.put sX.next (some (.cells [.int .i64 oh,.int .i64 nh,v6] 26 false))).heap.get c=s6.heap.get c:=fun c hc=>by rw[Aw,if_neg hc]
     refine⟨(i+1,s6.put sX.next (some (.cells [.int .i64 oh,.int .i64 nh,v6] 26 false)),v6,aps,acc++[.mk ao an ak]),⟨eW,g6.XD (by show s.next<=_;omega) hE,yK yd3 n6 (fun c hc=>(p7 c (by omega)).trans (p6 c (by omega))),by show sX.next<s6.next;omega,(p7 _ (by omega)).trans ((p6 _ (by omega)).trans z3),Aw.trans (if_pos U),?_,fun c hc=>by have:=o6 c hc;omega,?_,?_,?_⟩,by show ks.length-(i+1)<ks.length-i;omega,rfl,rfl,Ah (by repeat' constructor)⟩
     .show Grown _ _ _ v6 (CS (acc++[.mk ao an ak])) (acc++[KT.mk ao an ak]).length;rw[Ot,Ql];exact f6.Wd (Qj _) fun c hc=>p7 c (by have:=o6 c hc;omega)
     .dsimp only;rw[Ql,al1];rfl
     .dsimp only at hle|-;omega
     .rw[k1];dsimp only;rw[List.append_assoc];rfl
    .obtain rfl:i=ks.length:=by omega
     have k1:YH ds ks ps=(acc,qs,false):=by
      rw[k1,List.drop_length];show(acc++[],qs,false)=_;rw[List.append_nil]
     focus
      refine Ew U<|Sq ?_;refine Cd U (fun h2=>?_) (fun h2=>?_);exact absurd h2 (by omega);refine Sx<|A8 U<|Es<|Lo (kL U o1 U) U<|Ln (kw U z1 U) U<|Ld ?_;rotate_left
     have gr2:Grown (s1.put s.next (some (.cells [.int .i64 oh,.int .i64 nh,v] 26 false))) 26 3 v (CS acc) acc.length:=xA.Wd (Qj _) fun c hc=>by rw[Aw,if_neg (by have:=jk c hc;omega)]
     obtain⟨k2,hz,jP⟩:=GR gr2 (Jy (n:=37) _) (Fp _ 39) [];rw[List.append_nil]at hz;have sk:T=(.mk oh nh acc,qs,false):=by rw[sk,k1]
     refine Se (Al ⟨.inl U,_,rfl,_,A5 U EI Dj (Aw.trans (if_pos U)) (Qj _) U,fin _ _ k2 ?_ (fun c hc=>by have:=jk c (jP c hc);omega) (g1.XD (Qj _) hE) (by rw[sk];exact yP _ y1) Yc (by rw[sk])⟩);rw[sk];show((((Cs _ 0 39 v []).bind _).bind _).bind _)=_;rw[hz];rfl
theorem JA {g:FuncId} {caps:List AV} {s:St} {p:Nat} {Q:Option Int->Option Cw->Prop} {R RP:AV->St->Prop} (hb:C7 (EK LF) g=true) (jn:s.bound<=s.next) (hp:p<s.next)
 (h:CE (EK LF) g caps (s.enter.alloc (.cells [.int .i64 0] 31 false)) (fun v st=>v= .tuple []/\Ck (s.enter.alloc (.cells [.int .i64 0] 31 false)) st p/\Q none (st.heap.get p)) fun v st=>∃e,v=Z0 e/\Ck (s.enter.alloc (.cells [.int .i64 0] 31 false)) st p/\Q (some e) (st.heap.get p))
 (hR:∀o s',Ck s s' p->Q o (s'.heap.get p)->R (.int .i64 (o.getD 0)) s'):CE (EK LF) 29 [.func (.func g) [] caps] s R RP:=by
 have hE:s.enter.bound<=s.enter.next:=Qj _;refine CE.putOff (fn:=Tryz.f29) U (by kernel_rfl) U U U U<|Es<|Lo (kz U) U<|Ld<|K6 U (kq U) U U U U U U U U U U ?_;obtain⟨sA,hA⟩:∃x,x=s.enter.alloc (.cells [.int .i64 0] 31 false):=⟨_,rfl⟩
 rw[<-hA]at h;have gA:Ck s.enter sA p:=by rw[hA];exact Ck.alloc hE
 have nA:sA.next=s.next+1:=by rw[hA];rfl
 have eA:sA.heap.get s.next=some (.cells [.int .i64 0] 31 false):=by rw[hA];exact A4
 have fin:∀(st:St) (o:Option Int),Ck s.enter st p->Q o (st.heap.get p)->st.heap.get s.next=some (.cells [.int .i64 (o.getD 0)] 31 false)->∃cr,leave (EK LF) 29 s (.int .i64 (o.getD 0)) st=some cr/\match cr with
  | .same v=>R v s
  | .val v s'=>R v s'
  | .WR _ _=>False:=fun st o g q _=>AL rfl (fun _ _=>rfl) (fun _=>rfl) (fun hl=>hR o s Ck.refl (by
   rw[<-show st.heap.get p=s.heap.get p from g.ax.same p hp (by rw[hl];exact List.not_mem_nil)];exact q)) (fun _=>hR o _ (g.back jn) q)
 refine Es<|qm U ?_;show CB _ _ _ _ _ _ (s.enter.alloc (.cells [.int .i64 0] 31 false)) _;rw[<-hA];clear hA;refine Bo hb U U U U U U U U (h.mono (fun v st ⟨hv,g,q⟩=>?_) fun v st ⟨e,hv,g,q⟩=>?_)
 .subst hv;have eS:st.heap.get s.next=some (.cells [.int .i64 0] 31 false):=(g.Wh.heap _ (by omega) (by omega)).trans eA;have gS:=gA.trans g hE;refine Ld<|Es<|Ln (kw U eS U) U<|Ld ?_;have eP:(st.put s.next (some (.cells [.int .i64 0] 31 false))).heap.get s.next=some (.cells [.int .i64 0] 31 false):=Aw.trans (if_pos rfl);have qP:Q none ((st.put s.next (some (.cells [.int .i64 0] 31 false))).heap.get p):=by rw[Aw,if_neg (by omega)];exact q
  have gP:=gS.XD (b:=s.next) (o:=some (.cells [.int .i64 0] 31 false)) (Qj _) hE;show Cz _ _ _ _ (st.put s.next (some (.cells [.int .i64 0] 31 false))) _;generalize st.put s.next (some (.cells [.int .i64 0] 31 false))=sD at*;refine Se ⟨none,77,_,_,Tryz.f77,_,U,U,by kernel_rfl,U,U,?_⟩;refine Fy U U U U U U U U<|Sb<|Es<|Lq (Rq (neg:=false) U if_20 U U U) U<|Ld<|Tt U<|Sr<|Lw U ?_;exact⟨.inl U,U,[.int .i64 0],DS U rN rM eP U U,fin _ none gP qP eP⟩
 .subst hv;have eS:st.heap.get s.next=some (.cells [.int .i64 0] 31 false):=(g.Wh.heap _ (by omega) (by omega)).trans eA;have gS:=gA.trans g hE;refine⟨some (Z0 e),77,_,_,Tryz.f77,_,U,U,by kernel_rfl,U,U,?_⟩;refine Fy U U U U U U U U ?_;obtain⟨a1,a2,a3,a4,a5,a6,a7⟩:=Bg (st:=st) (z:=[.int .i64 0]) (cs:=[.int .i64 e]) (T:=151);have WT:=g.Wh.next;have gB:=gS.trans (Ck.own (p:=p) (oa:= .cells [.int .i64 0] 151 false) (o:=some (.cells [.int .i64 e] 151 false)) (gS.Y2 hE) rfl) hE;have eB:=(a4 s.next (by omega)).trans eS;have qB:Q (some e) (((st.alloc (.cells [.int .i64 0] 151 false)).put st.next (some (.cells [.int .i64 e] 151 false))).heap.get p):=by rw[a4 p (by omega)];exact q
  refine Sb<|Es<|Lq (Rq (neg:=false) U if_20 U U U) U<|Ld<|Tf U<|Ew U<|Tt U<|Es<|Lo (kz U) U<|Ln (kw U a1 U) U<|Ld<|Sr<|Lv 1 U<|Lo (kl U a2 U) U<|Ln (kw U eB U) U<|Ld ?_;exact⟨.inl U,U,[.int .i64 e],DS U rN rM (Aw.trans (if_pos U)) U U,fin (((st.alloc (.cells [.int .i64 0] 151 false)).put st.next (some (.cells [.int .i64 e] 151 false))).put s.next (some (.cells [.int .i64 e] 31 false))) (some e) (gB.XD (Qj _) hE) (by rw[Aw,if_neg (by omega)];exact qB) (Aw.trans (if_pos U))⟩
def okTk (t:XX):Prop:=(t.1=1->ae t.2.1=true)/\(t.1=2->t.2.1≠ []/\ae t.2.1=false)
theorem ok_tk {w:List UInt8} {a:Nat} (h:a<w.length) (h0:(XW (w.drop a)).2≠0):okTk (om w a):=by
 unfold okTk om;dsimp only;rw[Fq h]at h0|-;generalize w.getD a 0=c at*;generalize w.drop (a+1)=l at*;have hc:(c::l).getD 0 0=c:=rfl;obtain⟨k,hk⟩:∃k,(XW (c::l)).2=k+1:=⟨(XW (c::l)).2-1,by omega⟩
 rw[hk,List.take_succ_cons];constructor
 .intro h1;show C5 97 122 c.toNat=true;unfold XW at h1;rw[hc]at h1;split at h1
  .assumption
  .repeat' split at h1
   all_goals exact absurd h1 (by simp)
 .intro h1;refine⟨(fun h=>by cases h),?_⟩;show C5 97 122 c.toNat=false;unfold XW at h1;rw[hc]at h1;split at h1
  .repeat' split at h1
   all_goals exact absurd h1 (by simp)
  .next h2=>exact Bool.eq_false_iff.2 h2
theorem Tx (w:List UInt8):∀(f a:Nat),∀t∈(scan w f a).1,okTk t
 |0,_,t,h=>by cases h
 |f+1,a,t,h=>by
  unfold scan at h;split at h
  .next h1=>
   split at h
   .cases h
   .next h2=>
    rcases Qk.1 h with rfl|h
    .exact ok_tk h1 h2
    .exact Tx w f _ t h
  .cases h
def TsOK (ts:List XX):Prop:=∀i,okTk (eF ts i)
theorem ts_ok (w:List UInt8):TsOK (Cv w).1:=fun i=>by
 unfold eF;rw[List.getD_eq_getElem?_getD];cases h:(Cv w).1[i]? with
 |none=>exact⟨(fun h=>by cases h),fun h=>by cases h⟩
 |some t=>exact Tx w _ _ t (List.mem_of_getElem? h)
def xF (P:Nat->Option (Sh×Nat)):Prop:=∀i a j,P i=some (a,j)->wfS a=true/\YX a+i<=j
theorem Qx {ts:List XX} {P:Nat->Option (Sh×Nat)} (hP:xF P):∀m i l j,j9 P ts m i=some (l,j)->lN l=true/\Xt l+i+1<=j
 |0,_,_,_,h=>by cases h
 |m+1,i,l,j,h=>by
  unfold j9 at h;split at h
  .obtain⟨⟨a,k⟩,h1,h2⟩:=Qa.1 h;obtain⟨⟨l2,e⟩,h3,h4⟩:=Option.map_eq_some_iff.1 h2;cases h4;have ha:=hP _ _ _ h1;have hl:=Qx hP m k l2 e h3;refine⟨?_,?_⟩
   .show(wfS a&&lN l2)=true;rw[ha.1,hl.1];rfl
   .show YX a+Xt l2+i+1<=e;omega
  .split at h
   .cases h;exact⟨U,by show 0+i+1<=i+1;omega⟩
   .cases h
theorem xG {ts:List XX} {P:Nat->Option (Sh×Nat)} (hP:xF P) {i l j} (h:jh P ts i=some (l,j)):lN l=true/\Xt l+i<=j:=by
 unfold jh at h;split at h
 .obtain⟨⟨a,k⟩,h1,h2⟩:=Qa.1 h;obtain⟨⟨l2,e⟩,h3,h4⟩:=Option.map_eq_some_iff.1 h2;cases h4;have ha:=hP _ _ _ h1;have hl:=Qx hP _ k l2 e h3;refine⟨?_,?_⟩
  .show(wfS a&&lN l2)=true;rw[ha.1,hl.1];rfl
  .show YX a+Xt l2+i<=e;omega
 .cases h;exact⟨U,by show 0+i<=i;omega⟩
theorem xH {ts:List XX} (fO:TsOK ts) {P:Nat->Option (Sh×Nat)} (hP:xF P):xF (dE P ts):=by
 intro i a j h;unfold dE at h;split at h
 .next h1=>
  cases h;refine⟨?_,by show 0+1+i<=i+1;omega⟩;show((if(100:Nat)=100 then ae (cG ts i)&&true else _)&&true)=true;rw[if_pos rfl,show ae (cG ts i)=true from(fO i).1 h1];rfl
 .split at h
  .next h1=>
   obtain⟨⟨l2,e⟩,h3,h4⟩:=Option.map_eq_some_iff.1 h;cases h4;have hl:=xG hP h3;refine⟨?_,by show Xt l2+1+i<=e;omega⟩;show((if(101:Nat)=100 then _ else if(101:Nat)=101 then !(cG ts i).isEmpty&& !ae (cG ts i)else _)&&lN l2)=true;obtain⟨h5,h6⟩:=(fO i).2 h1;rw[if_neg (by decide),if_pos rfl,hl.1,show ae (cG ts i)=false from h6,show(cG ts i).isEmpty=false from by
    cases hh:cG ts i with
    |nil=>exact absurd hh h5
    |cons _ _=>rfl];rfl
  .split at h
   .obtain⟨⟨a,k⟩,h1,h2⟩:=Qa.1 h;have ha:=hP _ _ _ h1;split at h2
    .cases h2;exact⟨ha.1,by dsimp only at*;omega⟩
    .cases h2
   .cases h
theorem Ir {ts:List XX} (fO:TsOK ts):∀n,xF (Xx ts n)
 |0=>fun _ _ _ h=>by cases h
 |n+1=>by
  intro i a j h;unfold Xx at h;obtain⟨⟨a1,k⟩,h1,h2⟩:=Qa.1 h;have ha:=xH fO (Ir fO n) _ _ _ h1;split at h2
  .obtain⟨⟨b,e⟩,h3,h4⟩:=Option.map_eq_some_iff.1 h2;cases h4;have hb:=Ir fO n _ _ _ h3;refine⟨?_,?_⟩
   .show(true&&(wfS a1&&(wfS b&&true)))=true;rw[ha.1,hb.1];rfl
   .show YX a1+(YX b+0)+1+i<=e;dsimp only at*;omega
  .cases h2;exact ha
mutual
theorem Mu (ds:List DT):∀(x:Sh) (ps:List X4),Wa (cI ds x ps).1<=YX x
 | .mk o w ks,ps=>by
  have h:=NO ds ks ps;have hs:YX (.mk o w ks)=Xt ks+1:=rfl;unfold cI;split
  .split
   .show 0+1<=_;omega
   .split
    .show 0+1<=_;omega
    .show 0+1<=_;omega
  .split
   .show Wj _+1<=_;omega
   .show Wj _+1<=_;omega
theorem NO (ds:List DT):∀(l:List Sh) (ps:List X4),Wj (YH ds l ps).1<=Xt l
 | [],_=>Qj _
 |x::l,ps=>by
  have h1:=Mu ds x ps;have h2:=NO ds l (cI ds x ps).2.1;rw[Jk];show Wa _+Wj _<=YX x+Xt l;omega
end
def mG (ds:List DT) (n:Nat):Option (Sh×Nat)->Except Int KT
 |none=> .error 4
 |some x=>if x.2≠n then .error 4 else if(cI ds x.1 []).2.2=true then .error 7 else if CG ds 20 (cI ds x.1 []).1=false then .error 2 else .ok (cI ds x.1 []).1
noncomputable def Z1 (ds:List DT) (w:List UInt8):Except Int KT:=
 if Xr ds=false then .error 2 else if 3000<w.length then .error 3 else if(Cv w).2≠none then .error 4 else mG ds (Cv w).1.length (Xx (Cv w).1 ((Cv w).1.length+1) 0)
end Go.Proofs.YtfhimfcbphepeaaGreatDoor.Ty
open Go Am
namespace Am
theorem LD {E:Env} {KN:PN} {all rest:List Oper} {i:Nat} {fr:Fr} {l:Sl} {st:St} {js:List Nat} {nl:Wu} {K:Sl->St->Prop} (h:∀s',s'=st->CK E KN all rest i fr l s' js nl K):CK E KN all rest i fr l st js nl K:=h st rfl
end Am
namespace Go.Proofs.YtfhimfcbphepeaaGreatDoor.Ty
theorem So {s:St} {e:TypeId} {k n:Nat} {v:AV} {cs:List AV} (h:Grown s e k v cs n):v.cells=[v]/\v.isTuple=false:=by
 rcases h with⟨rfl,_⟩|⟨b,rfl,_⟩<;>exact⟨rfl,rfl⟩
theorem xI {l:List X4} {w:X4} (h:∀j (hj:j<l.length),l[j]≠w):jg w (.int .i64 ((l.length:Nat):Int)) (YL 0 l)=YL 0 (l++[w])/\getM w (YL 0 l)=none:=by
 have hg:getM w (YL 0 l)=none:=by rw[Iu,Jn h];rfl
 refine⟨?_,hg⟩;unfold jg;rw[if_pos hg,Mo,Nat.zero_add]
theorem xJ {ds:List DT} (h:Xr ds=true):iy ds:=by
 unfold Xr at h;exact @dT _ (Classical.propDecidable _) h
theorem SV {s s1:St} {p:Nat} (c:XB s.enter s1 (fun _=>False)):Ck s.enter s1 p:=⟨⟨c.next,c.bound,fun b hb=>(c.log b hb).imp id fun h=>h.2.elim,fun b hb _=>c.heap b hb id⟩,⟨c.bound,fun _ h=>(by cases h),fun b hb _=>c.heap b hb id⟩⟩
theorem Ck.new {s s1 s2:St} {p q:Nat} (g:Ck s.enter s1 p) (h:Ck s1 s2 q) (hq:s.next<=q):Ck s.enter s2 p:=⟨g.Wh.trans h.Wh (fun _ h=>h) (fun c hc=> .inr (by rw[hc];exact hq)) (Qj _),g.ax.trans h.ax⟩
theorem Td {ds:List DT} {w:List UInt8} (hs:CD ds=true) (hw:w.length<=4000) {s:St} {b0 b1 p:Nat} {e0 e1:TypeId} (g0:s.heap.get b0=some (.cells [We ds] e0 false)) (g1:s.heap.get b1=some (.cells [.str w] e1 false))
 (gp:s.heap.get p=some (.cells Ws 26 false)) (l0:b0<s.next) (l1:b1<s.next) (lp:p<s.next) (n0:b0≠p) (n1:b1≠p) (hb:s.bound<=s.next) {R RP:AV->St->Prop}
 (hR:∀T,Z1 ds w= .ok T->∀s',Ck s s' p->s'.heap.get p=some (.cells (W4 T) 26 false)->R (.tuple []) s') (hP:∀e,Z1 ds w= .error e->∀s',Ck s s' p->RP (Z0 e) s'):
 CE (EK LF) 30 [.ptr b0 0,.ptr b1 0,.ptr p 0] s R RP:=by
 refine CE.unit (fn:=Tryz.f30) U (by kernel_rfl) U U U U ?_;have hE:s.enter.bound<=s.enter.next:=Qj _;have g0:s.enter.heap.get b0=some (.cells [We ds] e0 false):=g0;have g1:s.enter.heap.get b1=some (.cells [.str w] e1 false):=g1;have qI:LF 32 [We ds]=some (.bool (Xr ds)):=hq_32 hs;unfold Z1 at hR hP;focus
  refine Es<|Lo (kl U g0 U) U ?_;refine Lo (kc U (qI)) U<|Lv 1 U ?_;refine BI (k:=10) U (fun g2=>?_) (fun g2=>?_);have h2:=tb g2;refine Af U U (by kernel_rfl) U U U U (FW ?_);rotate_left;have h2:=tc g2;refine Lo (Av U U (by kernel_rfl) U (FV)) U<|Ld<|Es<|Lo (kl U g1 U) U ?_;rotate_left
 .rw[if_pos h2]at hP;exact⟨U,hP 2 U s Ck.refl⟩
 rw[if_neg (by rw[h2];decide)]at hR hP;refine Af U U (by kernel_rfl) U U U U (RG hw hE (fun hl=>?_) (fun hl hn=>?_) fun hl hn pr s1 pS c1 r1=>?_)
 .rw[if_pos hl]at hP;exact⟨U,hP 3 U s Ck.refl⟩
 .rw[if_neg (by omega),if_pos hn]at hP;exact⟨U,hP 4 U s Ck.refl⟩
 rw[if_neg (by omega),if_neg (fun h=>h hn)]at hR hP;have fO:=ts_ok w;have hlen:=Gb w;generalize (Cv w).1=ts at*;have tD:Ck s.enter s1 p:=SV c1;have pS:s.next<=pr:=pS;refine Lw U<|Es<|qm U ?_;refine Af U U (by kernel_rfl) U U U U (ID ts pr (ts.length+1) s1 0 _ _ r1 (tD.Y2 hE) (by omega) (fun x j hx s2 g2 r2=>?_) fun hx s2 g2=>?_);rotate_left
 .rw[hx]at hP;exact⟨U,hP 4 U _ ((tD.new g2 pS).back hb)⟩
 rw[hx]at hR hP;unfold mG at hR hP;dsimp only at hR hP;have gs2:=tD.new g2 pS;have hfx:=Ir fO _ _ _ _ hx;obtain⟨cx,hcx⟩:=Eb x;rw[hcx];refine Lw U<|Es<|qm U ?_;refine Af U U (by kernel_rfl) U U U U (end_run r2 (gs2.Y2 hE) (fun hj=>?_) fun hj=>?_);rotate_left
 .rw[if_pos hj]at hP;exact⟨U,hP 4 U _ (gs2.back hb)⟩
 rw[if_neg (fun h=>h hj)]at hR hP;have hn2:s.next<=s2.next:=gs2.Wh.next;have q1:∀c,c<s.next->s1.heap.get c=s.heap.get c:=fun c hc=>c1.heap c hc id;have q2:∀c,c<s.next->s2.heap.get c=s.heap.get c:=fun c hc=>(g2.Wh.heap c (Nat.lt_of_lt_of_le hc c1.next) (by omega)).trans (q1 c hc);have gw:=gs2.Y2 hE;clear g2 r2 r1 c1;obtain⟨s3,aX⟩:∃x,x=((s2.alloc (.map [] 0)).alloc (.map [] 0)).alloc (.cells [.map s2.next,.Ca,.map (s2.next+1),.bool true] 85 false):=⟨_,rfl⟩
 have n3:s3.next=s2.next+3:=by rw[aX];rfl
 have gs3:Ck s.enter s3 p:=by rw[aX];exact((gs2.trans (Ck.alloc gw) hE).trans (Ck.alloc (Nat.le_succ_of_le gw)) hE).trans (Ck.alloc (Nat.le_succ_of_le (Nat.le_succ_of_le gw))) hE
 have q3:∀c,c<s2.next->s3.heap.get c=s2.heap.get c:=fun c hc=>by rw[aX];exact(Ao (show c<s2.next+2 by omega)).trans ((Ao (show c<s2.next+1 by omega)).trans (Ao hc))
 have y3:s3.heap.get (s2.next+2)=some (.cells [.map s2.next,.Ca,.map (s2.next+1),.bool true] 85 false):=by rw[aX];exact A4
 have v3:s3.heap.get (s2.next+1)=some (.map [] 0):=by rw[aX];exact(Ao (show s2.next+1<s2.next+2 by omega)).trans A4
 have d3:s3.heap.get s2.next=some (.map [] 0):=by rw[aX];exact(Ao (show s2.next<s2.next+2 by omega)).trans ((Ao (Nat.lt_succ_self _)).trans A4)
 refine Ld<|Es ?_;iterate 2 refine Lo (JO U p8) U ?_
 refine Lv 1 U<|Lo (AO U U U) U<|Lw U<|Sq ?_;refine Aq fun sX WZ=>?_;obtain rfl:sX=s3:=WZ.trans aX.symm;clear WZ aX;have q3:∀c,c<s.next->sX.heap.get c=s.heap.get c:=fun c hc=>(q3 c (by omega)).trans (q2 c hc);have g03:=(q3 b0 l0).trans g0;have iE:=(Da hs).1;have X2:=xJ h2;refine Es<|Lo (kl U g03 U) U<|Lw U<|Sb ?_;refine Ai (fun x:Nat×St×AV=>([(24,.int .i64 (x.1:Nat)),(23,.int .i64 (ds.length:Nat)),(22,We ds),(5,.ptr (s2.next+2) 0),(4,.Wl cx),(2,.ptr p 0),(0,.ptr b0 0)],x.2.1)) (fun x=>ds.length-x.1)
  (fun x=>x.1<=ds.length/\Ck s.enter x.2.1 p/\s2.next+3<=x.2.1.next/\(∀c,c<s.next->x.2.1.heap.get c=s.heap.get c)/\x.2.1.heap.get (s2.next+2)=some (.cells [.map s2.next,x.2.2,.map (s2.next+1),.bool true] 85 false)/\
   x.2.1.heap.get s2.next=some (.map (Xs 0 (YL 0 ((ds.take x.1).map DT.name))) (YL 0 ((ds.take x.1).map DT.name)).length)/\x.2.1.heap.get (s2.next+1)=some (.map [] 0)/\Grown x.2.1 3 1 x.2.2 (xE (ds.take x.1)) x.1/\(∀c,C6 c x.2.2=true->s2.next+2<c))
  (0,sX,.Ca) ⟨Qm _,gs3,by rw[n3];exact Qj _,q3,y3,d3,v3,Grown.nil _ _ _,fun _ h=>by cases h⟩ rfl (Ah (by repeat' constructor)) ?_
 rintro⟨i,st,pv⟩ ⟨hi,hg,aC,hq,hy,uN,mm,aV,YG⟩;dsimp only at hi hg aC hq hy uN mm aV YG|-;have jn:=hg.Y2 hE;clear gs3 q3 y3 v3 d3 n3 g03;by_cases h:i<ds.length
 .have Yz:=A9 AS h;unfold Y9 at Yz;obtain⟨a1,a2,a3,a4,a5,a6,a7⟩:=Bg (st:=st) (z:=[.str [],.int .i64 0,.Ca]) (cs:=[.str ds[i].name,.int .i64 ds[i].params,CM XS 1 ds[i].cons]) (T:=54);focus
   refine Ew U<|Sq ?_;refine Cd U (fun h3=>?_) (fun h3=>?_);refine Sk<|Sq<|Sb<|Es<|qm U<|Lq (kv U Yz) U<|Lv 1 U<|Lo (kz U) U<|qa U<|Ln (kw U a1 U) U<|Ld ?_;rotate_left;exact absurd h3 (by omega)
  refine Aq fun sI hsI=>?_;have hsI:sI=(st.alloc (.cells [.str [],.int .i64 0,.Ca] 54 false)).put st.next (some (.cells [.str ds[i].name,.int .i64 ds[i].params,CM XS 1 ds[i].cons] 54 false)):=hsI;have gI:Ck s.enter sI p:=by rw[hsI];exact hg.trans (Ck.own jn rfl) hE
  have pI:∀c,c<st.next->sI.heap.get c=st.heap.get c:=fun c hc=>by rw[hsI];exact a4 c hc
  have tI:sI.heap.get st.next=some (.cells [.str ds[i].name,.int .i64 ds[i].params,CM XS 1 ds[i].cons] 54 false):=by rw[hsI];exact a2
  have nI:sI.next=st.next+1:=by rw[hsI];exact a7
  clear a1 a2 a3 a4 a5 a6 a7 hsI;have yI:=(pI (s2.next+2) (by omega)).trans hy;have dI:=(pI s2.next (by omega)).trans uN;have Co:s2.next<sI.next:=by omega
  have tE:((ds.take i).map DT.name).length=i:=by rw[List.length_map,List.length_take];omega
  obtain⟨hpm,hgm⟩:=xI (l:=(ds.take i).map DT.name) (w:=ds[i].name) fun j hj=>by
   rw[List.getElem_map,List.getElem_take];rw[tE]at hj;exact X2.apart i h j (by omega) hj
  have hms:=Mq (w:=ds[i].name) (v:= .int .i64 ((i:Nat):Int)) dI fun x hx=>by rw[hgm]at hx;cases hx
  rw[tE]at hpm;rw[hpm]at hms;obtain⟨sJ,hsJ⟩:∃x,x=ov sI s2.next (some (.map (Xs 0 (YL 0 ((ds.take i).map DT.name++[ds[i].name]))) (YL 0 ((ds.take i).map DT.name++[ds[i].name])).length)):=⟨_,rfl⟩
  have gJ:Ck s.enter sJ p:=by rw[hsJ];exact⟨gI.Wh.trans Rb (fun _ h=>h) (fun c hc=> .inr (by rw[hc];exact hn2)) hE,gI.ax.trans Us⟩
  have pJ:∀c,c≠s2.next->sJ.heap.get c=sI.heap.get c:=fun c hc=>by rw[hsJ];exact cH.trans (if_neg hc)
  have dJ:sJ.heap.get s2.next=some (.map (Xs 0 (YL 0 ((ds.take i).map DT.name++[ds[i].name]))) (YL 0 ((ds.take i).map DT.name++[ds[i].name])).length):=by rw[hsJ];exact cH.trans (if_pos rfl)
  have yJ:=(pJ (s2.next+2) (by omega)).trans yI;have tJ:=(pJ st.next (by omega)).trans tI;have nJ:sJ.next=st.next+1:=by rw[hsJ];exact nI
  have grJ:Grown sJ 3 1 pv (xE (ds.take i)) i:=aV.Wd (by omega) fun c hc=>(pJ c (by have:=YG c hc;omega)).trans (pI c (aV.own hc));have hbJ:=gJ.Y2 hE;have bJ:sJ.bound=s.next:=gJ.Wh.bound;refine Ag (by kernel_rfl)<|Nv 3 U<|Nm U yI U (.inl U) U<|Nv 1 U<|Nm U tI U (.inl U) U<|Nv 1 U<|Ik (.inl U) p8 qE U U U hms (by first|assumption|omega) U (by kernel_rfl) (.inl U) U U<|BT<|Eo (by kernel_rfl)<|Nv 4 U ?_;refine LD fun sK hsK=>?_;obtain rfl:sK=sJ:=hsK.trans hsJ.symm;clear hsJ hsK;refine Nm U yJ U (.inl U) U<|Nv 1 U<|Nm U tJ U (.inl U) U<|Bh U u_83 zV z_3 U U U (.inl U) U U ?_;refine HL (sz:=1) (new:=[.int .i64 ds[i].params]) grJ hbJ U (by decide) (AH (by omega) (by decide)) (AH (by omega) (by decide)) U U U U u_83 zV by_3 z_3 (by kernel_rfl) (by kernel_rfl) U U (by kernel_rfl) (by kernel_rfl) (.inl U) U U fun v6 s6 nl6 f6 o6 c6 l6 X7=>?_;have n6:=c6.next
  have g6:Ck s.enter s6 p:=⟨gJ.Wh.trans c6 (fun _ h=>h) (fun c h=> .inr (by have:=YG c h;show s.next<=c;omega)) hE,gJ.ax.trans l6⟩
  have p6:∀c,c<=s2.next+2->s6.heap.get c=sK.heap.get c:=fun c hc=>c6.heap c (by omega) fun e=>by have:=YG c e;omega
  have hcv:=So f6;have b6:s6.bound=s.next:=g6.Wh.bound;refine Nv 2 U ?_;refine ED (show s6.bound<=s2.next+2 by omega) (show s2.next+2<s6.next by omega) U sz_83 U U ((p6 _ (Qj _)).trans yJ) (by rw[hcv.1];rfl) hcv.2 (by rw[hcv.1];rfl) (X7 (s2.next+2) (by omega) (by
   cases hh:C6 (s2.next+2) pv with
   |false=>rfl
   |true=>have:=YG _ hh;omega) _ (Dy (by kernel_rfl))) (by kernel_rfl) (.inl rfl) rfl rfl ?_
  refine BT<|Sr ?_;refine Lq (ka (b:=1) U (by omega)) U ?_;refine Lw U ?_;have p7:∀c,c≠s2.next+2->(s6.put (s2.next+2) (some (.cells [.map s2.next,v6,.map (s2.next+1),.bool true] 85 false))).heap.get c=s6.heap.get c:=fun c hc=>by rw[Aw,if_neg hc]
  refine⟨(i+1,s6.put (s2.next+2) (some (.cells [.map s2.next,v6,.map (s2.next+1),.bool true] 85 false)),v6),⟨h,g6.XD (show s.next<=s2.next+2 by omega) hE,?_,?_,Aw.trans (if_pos U),?_,?_,?_,?_⟩,by show ds.length-(i+1)<ds.length-i;omega,U,U,Ah (by repeat' constructor)⟩
  .show s2.next+3<=s6.next;omega
  .intro c hc;exact(p7 c (by omega)).trans ((p6 c (by omega)).trans ((pJ c (by omega)).trans ((pI c (by omega)).trans (hq c hc))))
  .refine(p7 _ (by omega)).trans ((p6 _ (by omega)).trans ?_);dsimp only;rw[List.take_succ_eq_append_getElem h,List.map_append];exact dJ
  .exact(p7 _ (by omega)).trans ((p6 _ (by omega)).trans ((pJ _ (by omega)).trans ((pI _ (by omega)).trans mm)))
  .have f7:Grown s6 3 1 v6 (xE (ds.take (i+1))) (i+1):=by
    unfold xE at f6|-;rw[List.take_succ_eq_append_getElem h,List.map_append];exact f6
   exact f7.Wd (Qj _) fun c hc=>p7 c (by have:=o6 c hc;omega)
  .intro c hc;have:=o6 c hc;omega
 .obtain rfl:i=ds.length:=by omega
  rw[List.take_length]at uN aV;have tE:(YL 0 (ds.map DT.name)).length=ds.length:=by rw[GF,List.length_map]
  rw[tE]at uN;have yd:YD st (s2.next+2) s2.next (s2.next+1) pv ds []:=⟨hy,uN,aV,mm,by omega,by omega,by omega,by omega,by omega,by
   cases hh:C6 (s2.next+1) pv with
   |false=>rfl
   |true=>have:=YG _ hh;omega⟩
  have nD:=(hq p lp).trans gp;focus
   refine Ew U<|Sq ?_;refine Cb U (fun g3=>?_) (fun g3=>?_);have h3:=dT g3;exact absurd h3 (by omega);have h3:=dF g3;refine Sx<|A8 U<|Es<|Lv 2 U ?_;rotate_left
  rw[<-hcx];refine Af U U (by kernel_rfl) U U U U (of_run ds (by omega) (s2.next+2) s2.next (s2.next+1) pv (iB x) st x [] _ _ (Qj _) hfx.1 yd jn (by show 0+YX x<=4000;omega) (fun hbx s4 g4 y4=>?_) fun hbx s4 g4=>?_);rotate_left
  .rw[if_pos hbx]at hP;exact⟨U,hP 7 U _ ((hg.new g4 (by omega)).back hb)⟩
  rw[if_neg (by rw[hbx];decide)]at hR hP;have WT:=Mu ds x [];have p4:s4.heap.get p=some (.cells Ws 26 false):=(g4.Wh.heap p (by omega) (by omega)).trans nD;have g40:s4.heap.get b0=some (.cells [We ds] e0 false):=(g4.Wh.heap b0 (by omega) (by omega)).trans ((hq b0 l0).trans g0);have hg4:=hg.new g4 (by omega);generalize cI ds x []=A at*;obtain⟨T,ps,ab⟩:=A;dsimp only at hR hP WT y4;have sm:LF 37 [We ds,.agg (W4 T)]=some (.bool (CG ds 20 T)):=hqb_37 (by omega) (by omega);have e2:(if CG ds 20 T=false then(Except.error 2:Except Int KT)else .ok T)= .ok T↔CG ds 20 T=true:=by cases CG ds 20 T<;>simp
  have heq:=BH T;rw[BH]at sm|-;have sL:b0≠p:=n0;have p5:∀o,(s4.put p o).heap.get b0=some (.cells [We ds] e0 false):=fun o=>(Aw.trans (if_neg n0)).trans g40;have p50:=p5 (some (.cells [.int .i64 T.op,.int .i64 T.n,CJ (CS T.kids) T.kids.length 3] 26 false));have p51:(s4.put p (some (.cells [.int .i64 T.op,.int .i64 T.n,CJ (CS T.kids) T.kids.length 3] 26 false))).heap.get p=some (.cells [.int .i64 T.op,.int .i64 T.n,CJ (CS T.kids) T.kids.length 3] 26 false):=Aw.trans (if_pos rfl);show CB _ _ _ _ _ ((_,.agg [.int .i64 T.op,.int .i64 T.n,CJ (CS T.kids) T.kids.length 3])::_) _ _;focus
   refine Ln (kw U p4 U) U<|Ld<|Sr<|Lo (kl U p50 U) U<|Lo (kL U p51 U) U ?_;refine Lo (kc U (sm)) U<|Lv 1 U ?_;refine BI (k:=54) U (fun g41=>?_) (fun g41=>?_);have h41:=tb g41;refine Af U U (by kernel_rfl) U U U U (FW ?_);rotate_left;have h41:=tc g41;refine Lo (Av U U (by kernel_rfl) U (FV)) U<|Ld ?_;rotate_left
  .rw[if_pos h41]at hP;exact⟨U,hP 2 U _ ((hg4.trans Ck.put hE).back hb)⟩
  .rw[if_neg (by simp_all)]at hR;have:=hR T rfl _ ((hg4.trans Ck.put hE).back hb) (by rw[heq];exact p51);exact⟨.inr U,rfl,fun hl=>absurd hl (B7 (.inr (by rw[hg4.Wh.bound];exact lp))),this⟩
theorem Rj {s:St} {m n:Nat} (T:KT) (ks:List Nat):Cs s m (n+2) (.agg [.int .i64 T.op,.int .i64 T.n,CJ (CS T.kids) T.kids.length 3]) ks=some (.agg (W4 T),ks):=by
 rw[<-BH T];show((Cs.many (Cs s m (n+1)) (W4 T) ks).bind _)=_;rw[QU];rfl
def resTy:Except Int KT->AV
 | .ok T=> .tuple [.agg (W4 T),.int .i64 0]
 | .error e=> .tuple [.agg [.int .i64 0,.int .i64 0,.Ca],.int .i64 e]
theorem Tc {ds:List DT} {w:List UInt8} {e:Int} (h:Z1 ds w= .error e):e≠0:=by
 unfold Z1 mG at h;repeat' split at h
 all_goals first|cases h;decide|cases h
theorem xK {ds:List DT} {w:List UInt8} {T:KT} (h:Z1 ds w= .ok T):CG ds 20 T=true:=by
 unfold Z1 mG at h;repeat' split at h
 all_goals first|(cases h;simp_all)|cases h
theorem xL (ds:List DT) (w:List UInt8) (hs:CD ds=true) (hw:w.length<=4000):Cc (EK LF) 9 [We ds,.str w] S0 (resTy (Z1 ds w)):=by
 refine As U ?_;iterate 2 refine Eh U ?_
 refine Es<|Lv 1 U ?_;refine BO fun sX WZ=>?_;have h0:sX.heap.get 0=some (.cells [We ds] 22 false):=by rw[WZ];exact(AD 0).trans rfl
 have h1:sX.heap.get 1=some (.cells [.str w] 9 false):=by rw[WZ];exact(AD 1).trans rfl
 have h2:sX.heap.get 2=some (.cells Ws 26 false):=by rw[WZ];exact(AD 2).trans rfl
 have h3:sX.heap.get 3=some (.cells Ws 26 false):=by rw[WZ];exact(AD 3).trans rfl
 have nX:sX.next=4:=by rw[WZ];rfl
 have bX:sX.bound=0:=by rw[WZ];rfl
 have lX:sX.log=[]:=by rw[WZ];rfl
 clear WZ;have oA:∀c,c<sX.next->(sX.enter.alloc (.cells [.int .i64 0] 31 false)).heap.get c=sX.heap.get c:=fun c hc=>Ao hc;have nA:(sX.enter.alloc (.cells [.int .i64 0] 31 false)).next=5:=by show sX.next+1=5;omega
 have bA:(sX.enter.alloc (.cells [.int .i64 0] 31 false)).bound=4:=nX;refine Af U U (by kernel_rfl) U U U U (JA (p:=3) (Q:=fun o c=>match Z1 ds w with
  | .ok T=>o=none/\c=some (.cells (W4 T) 26 false)
  | .error e=>o=some e) (by kernel_rfl) (by omega) (by omega) (Td hs hw (b0:=0) (b1:=1) (p:=3) ((oA 0 (by omega)).trans h0) ((oA 1 (by omega)).trans h1) ((oA 3 (by omega)).trans h3) (by omega) (by omega) (by omega) (by decide) (by decide) (by omega) (fun T hT s' g c=>⟨rfl,g,by rw[hT];exact⟨rfl,c⟩⟩) fun e he s' g=>⟨e,rfl,g,by rw[he]⟩) fun o s' g q=>?_)
 have h2':s'.heap.get 2=some (.cells Ws 26 false):=(g.Wh.heap 2 (by omega) (by decide)).trans h2;have l':s'.log=[]:=List.eq_nil_iff_forall_not_mem.2 fun c hc=>by
  rcases g.Wh.log c hc with h|h
  .rw[lX]at h;cases h
  .omega
 have b':s'.bound=0:=g.Wh.bound.trans bX;cases hT:Z1 ds w with
 |ok T=>
  rw[hT]at q;obtain⟨rfl,hc⟩:=q;have heq:=BH T;rw[heq]at hc;have lP:∀o,(s'.put 2 o).log=[]:=fun o=>by show(bif Nat.blt 2 s'.bound then _ else s'.log)=[];rw[b'];exact l'
  refine Lw U<|Sq<|Ew U<|Tf U<|Sk<|Es<|Lo (kL U hc U) U<|Ln (kw U h2' U) U<|Lw U ?_;refine Se ⟨.inl U,U,lP _,b',_,_,[],A5 U EI Dj (Aw.trans (if_pos U)) (Qj _) (Aa U U),(?_:_=some (.tuple [.agg (W4 T),.int .i64 0],[])),?_,U⟩
  .show((((Cs _ 0 39 (.agg [.int .i64 T.op,.int .i64 T.n,CJ (CS T.kids) T.kids.length 3]) []).bind _)).bind _)=_;rw[Rj];rfl
  .show(Cr 0 39 (.agg (W4 T))&&true)=true;rw[F2];rfl
 |error e=>
  rw[hT]at q;have q:o=some e:=q;subst q;have YM:=Tc hT;have lP:∀o,(s'.put 2 o).log=[]:=fun o=>by show(bif Nat.blt 2 s'.bound then _ else s'.log)=[];rw[b'];exact l'
  focus
   refine Lw U<|Sq<|Ew U ?_;refine Ce U (fun h1=>?_) (fun h1=>?_);refine Es<|Lv 2 U<|Ln (kw U h2' U) U<|Lw U ?_;rotate_left;refine Sk<|Es ?_;rotate_left
  .exact Se ⟨.inl U,U,lP _,b',_,_,[],A5 U EI Dj (Aw.trans (if_pos U)) (Qj _) (Aa U U),U,U,U⟩
  .exact absurd h1 YM
end Go.Proofs.YtfhimfcbphepeaaGreatDoor.Ty
