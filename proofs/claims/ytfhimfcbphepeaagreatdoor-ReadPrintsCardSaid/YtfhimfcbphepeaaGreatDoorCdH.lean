/- Printing, part 8. -/
import Derived.Test.YtfhimfcbphepeaaGreatDoorCdA
import Derived.Test.YtfhimfcbphepeaaGreatDoorCdG
import Derived.Test.YtfhimfcbphepeaaGreatDoorAmG
import Derived.Lib.LaidTab
set_option linter.unusedSectionVars false
set_option linter.unusedVariables false
set_option linter.unusedSimpArgs false
open Go Am
namespace Am
section
variable {E : a_} {fr : Fr} {l : Sl} {st : St} {o : Oper} {all rest : List Oper} {i : Nat} {js : List Nat} {nl : YI} {KN : PN} {K : Sl -> St -> Prop} {od : Option Nat}
theorem RI {c:Call} {t f:Nat} {first captured args xs:List AV} {R RP:AV->St->Prop} (hb:CI E f=true) (ho:o.op= .call c) (hc:c.callee= .value (.tmp t)) (hv:Am.e_ t (Yn (b_ o.op.operands.toList) l)=some (.G' (.func f) first captured)) (ha:Za c.args.toList (Yn (b_ o.op.operands.toList) l)=some args)
 (hx:first++args++captured=xs) (h:YG E f xs (st.J st.heap) R RP) (o9:∀j∈js,Nat.testBit (Yt all i) j=true\/∃e∈KN.a,e.1=j) (dH:(nl.all fun p=>Nat.testBit (Yt all i) p.1)=true) (hg:Yv all l o) (hd:o.dst=od) (C8:YW fr.nt od=true)
 (hk:∀v s2,R v s2->st.a<=s2.a/\(∀b∈s2.c,b<st.a)/\RdW KN (Yt all i) s2/\∀kF,iV nl i st.a s2.c kF->CF E KN all rest (i+1) fr (ZC od v l) (st.G s2) (i::js) kF K)
 (hp:∀v s2,RP v s2->st.a<=s2.a/\(∀b∈s2.c,b<st.a)/\RdW KN (Yt all i) s2/\KN.b v (st.G s2)/\RestN E all rest (i+1) i fr (ZC od (.O []) l) (st.G s2)):CF E KN all (o::rest) i fr l st js nl K:=by
 subst hx;have aY:ZW E o.type o.op= .dN (Ch E (.tmp t)) (CV E c.args.toList):=by
  rw[ho];show YC E o.type c=_;unfold YC;rw[hc]
 obtain⟨N,cr,hN,hm⟩:=h;refine Qy (.inr ⟨_,_,aY⟩) o9 dH hg hd C8 fun T hT=>?_;have key:∀n,N<=n->∀k:td,(Z0 E (ZW E o.type o.op) k).run (ev E n) fr T (st.J st.heap)=ZB fr T (st.J st.heap) (k.run (ev E n) fr T) (some cr):=fun n hn k=>by
  rw[aY];show ZB fr T _ (k.run (ev E n) fr T) ((Ch E (.tmp t) T).bind fun g=>(CV E c.args.toList T).bind fun args=>aj E (ev E n) args (st.J st.heap) g)=_;rw[show Ch E (.tmp t) T=_ from hT t _ hv,AW hT ha];simp only[Qe,aj,hb,cond_true];rw[hN n hn]
 cases cr with
 |same v=>exact .inl ⟨v,_,⟨N,key⟩,hk v _ hm⟩
 |J v s'=>exact .inl ⟨v,s',⟨N,key⟩,hk v _ hm⟩
 |O v s'=>exact .inr ⟨v,s',⟨N,key⟩,hp v _ hm⟩
end
end Am
namespace Go.Proofs.YtfhimfcbphepeaaGreatDoor.Ty
abbrev w9 (cs fs:List Ci) (bn bx bb:Nat):AV:= .agg [Cp Cq 2 cs,Cp Cq 2 fs,NF bn bx bb]
theorem PU (own asked:Int) (s:Zi):w_ (own-1) asked s=w_ own (asked+1) s:=by
 unfold w_;by_cases h:own<asked+1
 .rw[if_pos h,if_pos (by omega)]
 .rw[if_neg h,if_neg (by omega)]
theorem XT (o:Int) (s:Zi):w_ (dV o-1) (-1) s=s:=by
 unfold w_;rw[if_neg (by have:=Ki o;omega)]
section
variable {cs fs : List Ci} {bb bn bx : Nat}
def InC (cs fs:List Ci) (bb bn bx d:Nat):Prop:=∀(s:St) (t:Cc) (k:Nat) (v:AV) (R RP:AV->St->Prop),CL t<=d->Ct t<=1000->ZD cs fs t=true->NM (fs.map Prod.fst) s bb bn bx k v->s.b<=s.a->
 (∀k' v' s',Ng s s' bn bx v v'->NM (fs.map Prod.fst) s' bb bn bx k' v'->R (.O [.int .i64 (dV t.op-1),.J (bg cs fs t)]) s')->YG (EK LF) 190 [w9 cs fs bn bx bb,.agg (Cf t)] s R RP
set_option maxRecDepth 4000 in
theorem N6 {d:Nat} (hp:eG cs fs) (hI:InC cs fs bb bn bx d) {s:St} {t:Cc} {k:Nat} {v:AV} {a:Int} (hd:CL t<=d) (hs:Ct t<=1000) (ht:ZD cs fs t=true) (h:NM (fs.map Prod.fst) s bb bn bx k v) (hb:s.b<=s.a) {R RP:AV->St->Prop}
 (hR:∀k' v' s',Ng s s' bn bx v v'->NM (fs.map Prod.fst) s' bb bn bx k' v'->R (.J (w_ (dV t.op-1) a (bg cs fs t))) s'):YG (EK LF) 123 [w9 cs fs bn bx bb,.agg (Cf t),.int .i64 a] s R RP:=by
 refine Ar U ?_;have hE:s.u.b<=s.u.a:=Qj _;have ee:=Ak t;have hlen:=Fu hp.c hp.f t ht;obtain⟨sA,ix⟩:∃x,x=(s.u.A (.J [Cp Cq 2 cs,Cp Cq 2 fs,NF bn bx bb] 122 false)).A (.J (Cf t) 47 false):=⟨_,rfl⟩
 have cA:YS s.u sA (fun _=>False):=by rw[ix];exact YS.u.trans YS.u (own:=fun _=>False) (o1:=fun _=>False) (o2:=fun _=>False) (fun _ h=>h) (fun _ h=>h.elim) hE
 have lA:Cu s.u sA:=by rw[ix];exact(Cu.u hE).trans (Cu.u (Nat.le_succ_of_le hE))
 have mA:NM (fs.map Prod.fst) sA bb bn bx k v:=NM.aI (h.same (s':=s.u) rfl rfl) cA;have g3:sA.heap.u s.a=some (.J [Cp Cq 2 cs,Cp Cq 2 fs,NF bn bx bb] 122 false):=by rw[ix];exact(Au (Nat.lt_succ_self _)).trans A1
 have g4:sA.heap.u (s.a+1)=some (.J (Cf t) 47 false):=by rw[ix];exact A1
 have hbA:sA.b<=sA.a:=by rw[cA.b];exact Nat.le_trans hE cA.a
 have c1:=qR 40;have c2:=qR 41;rw[ee]at ix g4|-;refine Es ?_;iterate 2 refine Lo (ZU.box U U U) U ?_
 refine Lw U<|AJ fun sX bm=>?_;obtain rfl:sX=sA:=bm.trans ix.symm;clear bm ix;refine Es ?_;iterate 2 refine Lo (kL U ‹_› U) U ?_
 refine Bk U U U (by rw[ee];rfl:_=some [w9 cs fs bn bx bb,.agg (Cf t)]) U U U (hI sX t k v _ _ hd hs ht mA hbA fun k' v' s' g n=>?_);have fin:∀w,w=w_ (dV t.op-1) a (bg cs fs t)->∃cr,k_ (EK LF) 123 s (.J w) s'=some cr/\match cr with
  | .same v=>R v s
  | .J v s'=>R v s'
  | .O _ _=>False:=fun w hw=>AQ rfl (fun _ _=>rfl) (fun _=>rfl) (fun _=>by rw[hw];exact hR k v s Ng.refl h) (fun _=>by rw[hw];exact hR k' v' _ (((Ng.of cA lA).trans g hE).back hb) (n.same rfl rfl))
 generalize bg cs fs t=w at*;unfold w_ at fin;focus
  refine Lw U<|Sq<|Ew U<|Cd U (fun h5=>?_) (fun h5=>?_);refine Es<|qm U ?_;iterate 2 refine Lq (Av U Zr U U (by grind)) U ?_
  refine Lw U ?_;rotate_left;refine Sk<|Ew U ?_;rotate_left
 .exact Se (AC ⟨.inl U,_,U,_,Aa U U,fin _ (by rw[if_pos (by omega)])⟩)
 .exact Se (AC ⟨.inl U,_,U,_,Aa U U,fin _ (by rw[if_neg (by omega)])⟩)
theorem ED {d:Nat} (hp:eG cs fs) (hI:InC cs fs bb bn bx d) {s:St} {t:Cc} {k:Nat} {v:AV} (hd:CL t<=d) (hs:Ct t<=1000) (ht:ZD cs fs t=true) (h:NM (fs.map Prod.fst) s bb bn bx k v) (hb:s.b<=s.a) {R RP:AV->St->Prop}
 (hR:∀k' v' s',Ng s s' bn bx v v'->NM (fs.map Prod.fst) s' bb bn bx k' v'->R (.J (bg cs fs t)) s'):YG (EK LF) 59 [w9 cs fs bn bx bb,.agg (Cf t)] s R RP:=by
 refine Ar U ?_;have hE:s.u.b<=s.u.a:=Qj _;have ee:=Ak t;obtain⟨sA,ix⟩:∃x,x=(s.u.A (.J [Cp Cq 2 cs,Cp Cq 2 fs,NF bn bx bb] 122 false)).A (.J (Cf t) 47 false):=⟨_,rfl⟩
 have cA:YS s.u sA (fun _=>False):=by rw[ix];exact YS.u.trans YS.u (own:=fun _=>False) (o1:=fun _=>False) (o2:=fun _=>False) (fun _ h=>h) (fun _ h=>h.elim) hE
 have lA:Cu s.u sA:=by rw[ix];exact(Cu.u hE).trans (Cu.u (Nat.le_succ_of_le hE))
 have mA:NM (fs.map Prod.fst) sA bb bn bx k v:=NM.aI (h.same (s':=s.u) rfl rfl) cA;have g3:sA.heap.u s.a=some (.J [Cp Cq 2 cs,Cp Cq 2 fs,NF bn bx bb] 122 false):=by rw[ix];exact(Au (Nat.lt_succ_self _)).trans A1
 have g4:sA.heap.u (s.a+1)=some (.J (Cf t) 47 false):=by rw[ix];exact A1
 have hbA:sA.b<=sA.a:=by rw[cA.b];exact Nat.le_trans hE cA.a
 rw[ee]at ix g4|-;refine Es ?_;iterate 2 refine Lo (ZU.box U U U) U ?_
 refine Lw U<|AJ fun sX bm=>?_;obtain rfl:sX=sA:=bm.trans ix.symm;clear bm ix;refine Es ?_;iterate 2 refine Lo (kL U ‹_› U) U ?_
 refine Bk U U U (by rw[ee];rfl:_=some [w9 cs fs bn bx bb,.agg (Cf t),.int .i64 (-1)]) U U U (N6 hp hI hd hs ht mA hbA fun k' v' s' g n=>?_);rw[XT];refine Lw U ?_;exact Se (AC ⟨.inl U,_,rfl,_,Aa U U,AQ U (fun _ _=>rfl) (fun _=>rfl) (fun _=>hR k v s Ng.refl h) (fun _=>hR k' v' _ (((Ng.of cA lA).trans g hE).back hb) (n.same U U))⟩)
set_option maxRecDepth 4000 in
theorem OE {d:Nat} (hp:eG cs fs) (hI:InC cs fs bb bn bx d) {s:St} {ks:List Cc} {k:Nat} {v:AV} (hd:Yl ks<=d) (hs:C5 ks<=1000) (ht:cp cs fs ks=true) (h:NM (fs.map Prod.fst) s bb bn bx k v) (hb:s.b<=s.a) {R RP:AV->St->Prop}
 (hR:∀k' v' s',Ng s s' bn bx v v'->NM (fs.map Prod.fst) s' bb bn bx k' v'->R (CY (bl cs fs ks)) s'):YG (EK LF) 140 [Cs ks,.G' (.func 59) [w9 cs fs bn bx bb] []] s R RP:=by
 refine Ar U ?_;have hE:s.u.b<=s.u.a:=Qj _;have nV:=Bo ks;have hlen:=BC (l:=ks);iterate 2 refine Ew U ?_
 refine Sq<|Ew U<|Sb<|Ai (fun x:Nat×Nat×AV×AV×St=>([(10,.int .i64 (x.1:Nat)),(9,.int .i64 (ks.length:Nat)),(8,Cs ks),(5,x.2.2.2.1),(1,.G' (.func 59) [w9 cs fs bn bx bb] [])],x.2.2.2.2)) (fun x=>ks.length-x.1)
  (fun x=>x.1<=ks.length/\Ng s.u x.2.2.2.2 bn bx v x.2.2.1/\NM (fs.map Prod.fst) x.2.2.2.2 bb bn bx x.2.1 x.2.2.1/\
   c_ x.2.2.2.2 9 1 x.2.2.2.1 ((bl cs fs (ks.take x.1)).map .J) x.1/\(∀c,CT c x.2.2.2.1=true->s.a<=c/\CT c x.2.2.1=false))
  (0,k,v,.Ca,s.u) ⟨Qo _,Ng.refl,h.same rfl rfl,c_.nil _ _ _,fun _ h=>by cases h⟩ rfl (Ac (by trivial)) ?_
 rintro⟨i,kj,vj,va,st⟩ ⟨hi,hg,hm,dy,wY⟩;dsimp only at hi hg hm dy wY|-;have tF:=hg.qz hE;by_cases tG:i<ks.length
 .have YK:=BD tG;have ee:=Ak ks[i];have aM:=Ql tG;have hsk:=BH aM;have lh:=Bg aM;have hsi:=Da ht _ aM;obtain⟨sA,ix⟩:∃x,x=(st.A (.J [.int .i64 0,.int .i64 0,.Ca] 47 false)).B st.a (some (.J (Cf ks[i]) 47 false)):=⟨_,rfl⟩
  have cA:YS st sA (fun _=>False):=by
   rw[ix];exact YS.u.trans (own:=fun _=>False) (o1:=fun _=>False) (YS.B (s:=st.A _) (b:=st.a)) (fun _ h=>h) (fun c h=> .inr (by rw[h];exact Qj _)) tF
  have lA:Cu st sA:=by rw[ix];exact(Cu.u tF).trans Cu.A
  have tA:sA.heap.u st.a=some (.J (Cf ks[i]) 47 false):=by rw[ix];exact AF.trans (if_pos rfl)
  have nA:sA.a=st.a+1:=by rw[ix];rfl
  have hbA:sA.b<=sA.a:=by rw[cA.b];exact Nat.le_trans tF cA.a
  have mA:=hm.aI cA;have gA:=Ng.of (bn:=bn) (bx:=bx) (v:=vj) cA lA;rw[ee]at YK ix tA;obtain⟨a1,a2,a3,a4,a5,a6,a7⟩:=FY (st:=st) (z:=[.int .i64 0,.int .i64 0,.Ca]) (cs:=[.int .i64 ks[i].op,.int .i64 ks[i].n,Cs ks[i].u]) (T:=47);focus
   refine Ew U<|Sq<|Cd U (fun h1=>?_) (fun h1=>?_);refine Sk<|Sq<|Sb<|Es<|Lq (kv U YK) U<|Lv 1 U<|Lo (kz U) U<|Ln (kw U a1 U) U<|Ld<|Sr<|Lv 2 U<|Lo (kL U a2 U) U ?_;rotate_left;omega
  refine D4 fun sX bm=>?_;obtain rfl:sX=sA:=bm.trans ix.symm;clear bm ix a1 a2 a3 a4 a5 a6 a7;refine F6 (args:=[.agg (Cf ks[i])]) U U U U (by rw[ee];rfl) U U U U (ED hp hI (Nat.le_trans lh hd) (by omega) hsi mA hbA fun k' v' s4 g4 m4=>?_);have g14:=(hg.trans gA hE).trans g4 hE;have hvA:∀c,CT c va=true->s4.heap.u c=st.heap.u c/\t_ s4 bx v' c:=fun c hc=>by
   obtain⟨h1,h2⟩:=wY c hc;have kc:t_ st bx vj c:=⟨dy.own hc,by have:=h.o4;omega,h2⟩
   obtain⟨w1,w2⟩:=gA.kp hm kc;obtain⟨w3,w4⟩:=g4.kp mA w2;exact⟨w3.trans w1,w4⟩
  have n4:=g4.eQ.a;have gr4:c_ s4 9 1 va ((bl cs fs (ks.take i)).map .J) i:=dy.aI (by omega) fun c hc=>(hvA c hc).1;have xG:=g4.qz hbA;refine Lo (Bv U MM Ia tn U U U) U<|DT gr4 U (by decide) (AP (by omega) (by decide)) (AP (by omega) (by decide)) U U U U MM Ia sH tn U U U U U U U fun v6 s6 f6 o6 c6 l6=>?_;have n6:=c6.a;refine Lw U<|Sr<|Lq (ka (b:=1) U (by omega)) U<|Lw U ?_;have bG:∀d,CT d va=true->bx<d/\CT d v'=false:=fun d hd=>⟨(hvA d hd).2.a,(hvA d hd).2.no⟩;have m6:=m4.eQ c6 bG;have hsn:s.a<=s4.a:=g14.eQ.a;refine⟨(i+1,k',v',v6,s6),⟨tG,⟨?_,g14.own,g14.pB.trans (l6 xG)⟩,m6,?_,fun c hc=>⟨by have:=o6 c hc;omega,?_⟩⟩,by show ks.length-(i+1)<ks.length-i;omega,rfl,rfl,Ac (by trivial)⟩
  .exact g14.eQ.trans c6 (fun _ h=>h) (fun c hc=> .inr (wY c hc).1) hE
  .show c_ s6 9 1 v6 ((bl cs fs (ks.take (i+1))).map .J) (i+1);rw[G8]at f6|-;rw[List.take_succ_eq_append_getElem tG,List.map_append,List.map_append];exact f6
  .have:=o6 c hc;cases hh:CT c v' with
   |false=>rfl
   |true=>have:=m4.gr.own hh;omega
 .obtain rfl:i=ks.length:=by omega
  rw[List.take_length]at dy;have hln:(bl cs fs ks).length=ks.length:=Di cs fs ks;focus
   refine Ew U<|Sq<|Cd U (fun h1=>?_) (fun h1=>?_);omega;refine Sx<|Ax U<|Ew U ?_;rotate_left
  obtain⟨k2,hz,uR⟩:=Xb dy (Sh (n:=38) _) (GX _) [];rw[List.append_nil]at hz;have e:jK ((bl cs fs ks).map .J) ks.length 1=CY (bl cs fs ks):=by unfold CY;rw[hln]
  rw[e]at hz;have u4:∀c∈k2,s.a<=c/\CT c vj=false:=fun c hc=>wY c (uR c hc);have off:∀c,c∉k2->(r1 st k2).heap.u c=st.heap.u c:=fun c hc=>kill_off hc;have hox:=h.o4;have ox2:=hm.o2;have ox3:=hm.o3;have lo:∀c,c<s.a->(r1 st k2).heap.u c=st.heap.u c:=fun c hc=>off c fun hm=>by have:=(u4 c hm).1;omega
  have ot:(r1 st k2).a=st.a:=Ph;have mk:NM (fs.map Prod.fst) (r1 st k2) bb bn bx kj vj:=⟨(lo bn (by omega)).trans hm.nm,hm.gr.aI (Nat.le_of_eq ot.symm) (fun c hc=>off c fun uS=>by rw[(u4 c uS).2]at hc;cases hc),(lo bx (by omega)).trans hm.nx,(lo bb (by omega)).trans hm.bt,hm.o2,hm.o3,by rw[ot];exact hm.o4,hm.own,hm.le⟩
  have gk:Ng s.u (r1 st k2) bn bx v vj:=⟨YS.J hg.eQ (fun c hc=>(u4 c hc).1) hE,hg.own,Cu.J hg.pB⟩
  exact Se (AC ⟨.inl U,_,rfl,_,Aa U U,U1 U hz (fun c hc=>by rw[hg.eQ.b];exact(u4 c hc).1) (LD _ _ _ _ _) (fun _=>hR k v s Ng.refl h) fun _=>hR kj vj _ (gk.back hb) (mk.same U U)⟩)
end
theorem op_lev {o:Int} (h:qT o=true):dV o-1=(ju o).2.1/\(Yu o).2.1=(ju o).2.2.1+1/\(Yu o).2.2.1=(ju o).2.2.2+1/\(Yu o).2.2.2=[32]++(ju o).1++[32]/\(ju o).1.length<=3:=by
 have h:=dT h;rcases(by omega:o=6\/o=7\/o=10\/o=11\/o=12\/o=13\/o=14\/o=15)with rfl|rfl|rfl|rfl|rfl|rfl|rfl|rfl<;>exact⟨by decide,by decide,by decide,rfl,by decide⟩
theorem inT_op {cs fs:List Ci} {o n:Int} {a b:Cc} (h:qT o=true):bg cs fs (.mk o n [a,b])=w_ (dV a.op-1) (ju o).2.2.1 (bg cs fs a)++[32]++(ju o).1++[32]++w_ (dV b.op-1) (ju o).2.2.2 (bg cs fs b):=by
 obtain⟨_,h2,h3,h4,_⟩:=op_lev h;have h:=dT h;rw[PU,PU,<-h2,<-h3];show ew cs fs o n [a,b] [bg cs fs a,bg cs fs b]=_;unfold ew;rw[if_neg (by omega),if_neg (by omega),if_neg (by omega),if_neg (by omega),if_neg (by omega),if_neg (by omega),h4];show w_ (dV a.op) _ _++([32]++(ju o).1++[32])++w_ (dV b.op) _ _=_;simp only[List.append_assoc];rfl
theorem op_two {cs fs:List Ci} {o n k:Int} (h:qT o=true) (hn:YJ cs fs o n k=true):k=2:=by
 have h:=dT h;unfold YJ at hn;rw[if_neg (by omega),if_neg (by omega),if_neg (by omega),if_neg (by omega),if_neg (by omega),if_neg (by omega),if_pos (by omega)]at hn;exact dT (Bool.and_eq_true_iff.1 hn).1
theorem t_.off {tk:List Zi} {s s2:St} {bb bn bx k:Nat} {v:AV} {b:Nat} (h:NM tk s bb bn bx k v) (hk:t_ s bx v b) (n2:∀c∈s2.c,c<s.a/\(c=bn\/c=bx\/CT c v=true)):b∉s2.c:=fun hm=>by
 have h3:=h.o3;have hg:=hk.a;rcases(n2 b hm).2 with h1|h1|h1
 .omega
 .omega
 .rw[hk.no]at h1;cases h1
section
variable {cs fs : List Ci} {bb bn bx : Nat}
set_option maxRecDepth 4000 in
set_option maxHeartbeats 1000000 in
theorem Pn (hp:eG cs fs):∀d,InC cs fs bb bn bx d
 |0=>fun s t k v R RP h _ _ _ _ _=>by have:=Dt t;omega
 |d+1=>by
  rintro s ⟨o,n,ks⟩ k v R RP hdp hs ht h hb hR;have hI:=Pn hp d;refine Ar U ?_;have hE:s.u.b<=s.u.a:=Qj _;have lh:Yl ks<=d:=by have:Yl ks+1<=d+1:=hdp;omega
  have af:C5 ks+1<=1000:=hs;have nV:=Bo ks;obtain⟨YA,hk⟩:=Bool.and_eq_true_iff.1 (show(YJ cs fs o n (ks.length:Nat)&&cp cs fs ks)=true from ht);rw[AG];obtain⟨sA,ix⟩:∃x,x=(s.u.A (.J [Cp Cq 2 cs,Cp Cq 2 fs,NF bn bx bb] 122 false)).A (.J [.int .i64 o,.int .i64 n,Cs ks] 47 false):=⟨_,rfl⟩
  have cA:YS s.u sA (fun _=>False):=by rw[ix];exact YS.u.trans YS.u (own:=fun _=>False) (o1:=fun _=>False) (o2:=fun _=>False) (fun _ h=>h) (fun _ h=>h.elim) hE
  have lA:Cu s.u sA:=by rw[ix];exact(Cu.u hE).trans (Cu.u (Nat.le_succ_of_le hE))
  have mA:NM (fs.map Prod.fst) sA bb bn bx k v:=NM.aI (h.same (s':=s.u) rfl rfl) cA;have g3:sA.heap.u s.a=some (.J [Cp Cq 2 cs,Cp Cq 2 fs,NF bn bx bb] 122 false):=by rw[ix];exact(Au (Nat.lt_succ_self _)).trans A1
  have g4:sA.heap.u (s.a+1)=some (.J [.int .i64 o,.int .i64 n,Cs ks] 47 false):=by rw[ix];exact A1
  have nA:sA.a=s.a+2:=by rw[ix];rfl
  have hbA:sA.b<=sA.a:=by rw[cA.b];exact Nat.le_trans hE cA.a
  refine Es ?_;iterate 2 refine Lo (ZU.box U U U) U ?_
  refine Lw U<|Sq<|AJ fun sX bm=>?_;obtain rfl:sX=sA:=bm.trans ix.symm;clear bm ix;refine Af (by kernel_rfl)<|B3 (by kernel_rfl) U U U (KT (RP:=fun _ _=>False) (Nf (s:=sX.J sX.heap) (Qj _))) (IW (by kernel_rfl)) (by kernel_rfl) (.inl U) U U ?_ (fun _ _ h=>h.elim);rintro x s2 ⟨b,es,c,rfl,q1,q2,q3,q4,q5,q6,q7⟩;have q1:sX.a<=b:=q1;have n1:sX.a<=s2.a:=q6.a;have CU:∀c,c∉s2.c:=fun c hc=>by
   rcases q6.d c hc with h|h
   .cases h
   .exact h.2
  refine⟨n1,fun c hc=>absurd hc (CU c),fun e he=> .inr (.inl (CU _)),fun kF dH=>?_⟩;have hm:∀c,c<s2.a->(sX.G s2).heap.u c=s2.heap.u c:=El n1 q7 rfl;have cB:YS sX (sX.G s2) (fun _=>False):=YS.G q6;have lB:Cu sX (sX.G s2):=Cu.I n1 q7 hbA;have u0:(sX.G s2).heap.u b=some (.O es c):=(hm b q2).trans q3;have q2:b<(sX.G s2).a:=q2;generalize sX.G s2=sB at*;have g3B:=(cB.heap _ (by omega) id).trans g3;have g4B:=(cB.heap _ (by omega) id).trans g4;have nV:=look_op u0 q4 o;refine Nv 1 U<|AI U U (A4 wc wb g4B U) (dH.clear U (show s.a+1<sX.a by omega) (CU _)) (.inl U) U U ?_
  skip
  refine UR U QG z_289 U2 U U nV (Eb (dH.all U (by kernel_rfl))) (.inl U) U U<|Nv 3 U<|CF.alloc U z_289 U U U U ?_;have fX:(sB.A (.J (oh [] 0 0 0).u 289 false)).heap.u sB.a=some (.J [.J [],.int .i64 0,.int .i64 0,.int .i64 0] 289 false):=A1;refine KU (Nat.lt_succ_self _) U sz_289 U U fX U U U (KE (by kernel_rfl) (Eb (dH.all U (by kernel_rfl)))) (by kernel_rfl) (.inl U) U U<|Nw U<|AJ fun sC hsC=>?_;have hsC:sC=uo (sB.A (.J (oh [] 0 0 0).u 289 false)) sB.a (some (.J [.J (ju o).1,.int .i64 (ju o).2.1,.int .i64 (ju o).2.2.1,.int .i64 (ju o).2.2.2] 289 false)):=hsC;have hbB:sB.b<=sB.a:=by rw[cB.b];exact Nat.le_trans hbA cB.a
  have cC:YS sB sC (fun _=>False):=by rw[hsC];exact YS.u.trans chg_putB (fun _ h=>h) (fun c h=> .inr (by rw[h];exact Qj _)) hbB
  have lC:Cu sB sC:=by rw[hsC];exact(Cu.u hbB).trans lg_putB
  have g6:sC.heap.u sB.a=some (.J [.J (ju o).1,.int .i64 (ju o).2.1,.int .i64 (ju o).2.2.1,.int .i64 (ju o).2.2.2] 289 false):=by rw[hsC];exact qx.trans (if_pos rfl)
  have n6:sC.a=sB.a+1:=by rw[hsC];rfl
  clear hsC fX;have nB:s.a+2<=sB.a:=by rw[<-nA];exact cB.a
  have g3:=(cC.heap _ (by omega) id).trans g3B;have g4:=(cC.heap _ (by omega) id).trans g4B;have mC:NM (fs.map Prod.fst) sC bb bn bx k v:=(mA.aI cB).aI cC;have gC:Ng s.u sC bn bx v v:=((Ng.of (bn:=bn) (bx:=bx) (v:=v) cA lA).trans (Ng.of cB lB) hE).trans (Ng.of cC lC) hE;have x5:=gC.qz hE;clear cA lA mA hbA q1 n1 CU dH hm cB lB u0 q2 g3B g4B nV cC lC hbB q3 q4 q5 q6 q7;obtain⟨b3,xC⟩:∃b,b=s.a:=⟨_,rfl⟩
  obtain⟨b4,xG⟩:∃b,b=s.a+1:=⟨_,rfl⟩
  obtain⟨b6,hb6⟩:∃b,b=sB.a:=⟨_,rfl⟩
  refine CA.at (l':=[(7,.bool (qT o)),(6,.Z b6 0),(3,.Z b4 0),(2,.Z b3 0)]) U (by rw[xC,xG,hb6];(refine Am.Ac ?_;repeat (first|exact trivial|refine⟨U,?_⟩))) ?_;rw[<-xG]at g4;rw[<-xC]at g3;rw[<-hb6]at g6;have k3:t_ sC bx v b3:=h.kp (by omega) (by omega);have k4:t_ sC bx v b4:=h.kp (by omega) (by omega);have k6:t_ sC bx v b6:=h.kp (by omega) (by omega);have fin:∀(st:St) (k':Nat) (v':AV) (lv:Int) (w:Zi),Ng sC st bn bx v v'->NM (fs.map Prod.fst) st bb bn bx k' v'->lv=dV o-1->w=bg cs fs (.mk o n ks)->∃cr,k_ (EK LF) 190 s (.O [.int .i64 lv,.J w]) st=some cr/\match cr with
   | .same v=>R v s
   | .J v s'=>R v s'
   | .O _ _=>False:=fun st k' v' lv w g m h1 h2=>AQ rfl (fun _ _=>rfl) (fun _=>rfl) (fun _=>by rw[h1,h2];exact hR k v s Ng.refl h) fun _=>by
   rw[h1,h2];exact hR k' v' _ ((gC.trans g hE).back hb) (m.same U U)
  clear hR gC hE nB xC xG hb6 n6 nA;cases hio:qT o with
  |true=>
   obtain⟨o1,o2,o3,o4,o5⟩:=op_lev hio;have h2:=op_two hio YA;obtain⟨a,b,rfl⟩:∃a b,ks=[a,b]:=by
    match ks,h2 with
    | [a,b],_=>exact⟨a,b,rfl⟩
   rw[inT_op hio]at fin;have qk:=BD (l:=[a,b]) (i:=0) (Nat.zero_lt_succ _);have ql:=BD (l:=[a,b]) (i:=1) (Nat.lt_succ_self _);have ea:=Ak a;have eb:=Ak b;rw[show [a,b][0]=a from rfl,ea]at qk;rw[show [a,b][1]=b from rfl,eb]at ql;have hss:C5 [a,b]=Ct a+(Ct b+0):=rfl;have hda:CL a<=Yl [a,b]:=Bg (Qh ..);have hdb:CL b<=Yl [a,b]:=Bg (Qg _ (Qh ..));have hta:=Da hk a (Qh ..);have vh:=Da hk b (Qg _ (Qh ..));have hla:=Fu hp.c hp.f a hta;have rk:=Fu hp.c hp.f b vh;have hba:=KH (dV a.op-1) (ju o).2.2.1 (bg cs fs a);have tf:=KH (dV b.op-1) (ju o).2.2.2 (bg cs fs b);have c1:=qR 32;refine Ew U<|Tt U<|Af (by kernel_rfl)<|Nv 1 U<|D3 U U (A4 GM Eo g6 U) U (.inl U) U U<|AI U U (AS IT IE g3 (Qc U)) U (.inl U) U U<|Nv 1 U<|Nm U g4 U (.inl U) U<|Nq (kv (k:=0) U qk) U<|Nv 2 U<|Nm U g6 U (.inl U) U<|B3 (by kernel_rfl) U U (by rw[ea];rfl:_=some [w9 cs fs bn bx bb,.agg (Cf a),.int .i64 (ju o).2.2.1]) (N6 hp hI (s:=sC.J sC.heap) (k:=k) (v:=v) (a:=(ju o).2.2.1) (Nat.le_trans hda lh) (by omega) hta (mC.same U U) (Qj _) (R:=fun x s'=>x= .J (w_ (dV a.op-1) (ju o).2.2.1 (bg cs fs a))/\∃k' v',Ng (sC.J sC.heap) s' bn bx v v'/\NM (fs.map Prod.fst) s' bb bn bx k' v') (RP:=fun _ _=>False) fun k' v' s' g m=>⟨rfl,k',v',g,m⟩) (IW (by kernel_rfl)) (by kernel_rfl) (.inl U) U U ?_ (fun _ _ h=>h.elim);generalize hA:w_ (dV a.op-1) (ju o).2.2.1 (bg cs fs a)=A at*;generalize hB:w_ (dV b.op-1) (ju o).2.2.2 (bg cs fs b)=B at*;rintro x s2 ⟨rfl,k1,v1,G,M⟩;obtain⟨n1,n2,G1,M1⟩:=G.merged M x5;have off1:∀b,t_ sC bx v b->b∉s2.c:=fun b hb=>t_.off mC hb n2;refine⟨n1,fun c hc=>(n2 c hc).1,fun e he=>?_,fun kF dH=>?_⟩
   .rw[Qp.1 he];exact .inr (.inl (off1 _ k6))
   have hbD:=G1.qz x5;obtain⟨e3,q3⟩:=G1.kp mC k3;obtain⟨e4,q4⟩:=G1.kp mC k4;obtain⟨e6,q6⟩:=G1.kp mC k6;have g3:=e3.trans g3;have g4:=e4.trans g4;have g6:=e6.trans g6;generalize sC.G s2=sD at*;refine Nq (Av U Zr U U (by omega)) U<|Nv 1 U<|D3 U U (A4 s9 Ia g6 U) (dH.clear U k6.lt (off1 _ k6)) (.inl U) U U ?_;iterate 2 refine Nq (Av U Zr U U (by grind)) U ?_
   refine AI U U (AS IT IE g3 (Qj _)) (dH.clear U k3.lt (off1 _ k3)) (.inl U) U U<|Nv 1 U<|AI U U (A4 Ep En g4 U) (dH.clear U k4.lt (off1 _ k4)) (.inl U) U U<|Nq (kv (k:=1) U ql) U<|Nv 2 U<|AI U U (A4 GM Eo g6 U) (dH.clear U k6.lt (off1 _ k6)) (.inl U) U U<|B3 U U U (by rw[eb];rfl:_=some [w9 cs fs bn bx bb,.agg (Cf b),.int .i64 (ju o).2.2.2]) (N6 hp hI (s:=sD.J sD.heap) (k:=k1) (v:=v1) (a:=(ju o).2.2.2) (Nat.le_trans hdb lh) (by omega) vh (M1.same U U) (Qj _) (R:=fun x s'=>x= .J B/\∃k' v',Ng (sD.J sD.heap) s' bn bx v1 v'/\NM (fs.map Prod.fst) s' bb bn bx k' v') (RP:=fun _ _=>False) fun k' v' s' g m=>⟨congrArg AV.J hB,k',v',g,m⟩) (IW U) (dH.all U (by kernel_rfl)) (.inl U) U U ?_ (fun _ _ h=>h.elim);rintro x s3 ⟨rfl,k2,v2,G,M⟩;obtain⟨m1,m2,G2,M2⟩:=G.merged M hbD
   refine⟨m1,fun c hc=>(m2 c hc).1,fun e he=>?_,fun nl3 x6=>?_⟩
   .rcases Qk.1 he with rfl|he
    .exact .inr (.inl (t_.off M1 q6 m2))
    .rw[Qp.1 he];exact .inr (.inl (t_.off M1 q6 m2))
   generalize sD.G s3=sF at*;refine Nq (Av U Zr U U (by first|assumption|omega|(simp only[LL];omega))) U<|Nw U ?_;exact Se (AC ⟨.inl U,_,U,_,Aa U (Aa U U),fin _ k2 v2 _ _ (G1.trans G2 x5) M2 o1.symm U⟩)
  |false=>
   clear g6 k6;by_cases e2:o=2
   .subst e2;have Z2:ZZ n (-1000000) 1000000=true:=by
     unfold YJ at YA;rw[if_neg (by decide),if_pos rfl]at YA;exact(Bool.and_eq_true_iff.1 YA).2
    obtain⟨i0,i1⟩:=aS.1 Z2;have pD:∀m:Int,-10000000<m->m<10000000->LF 243 [.int .i64 m]=some (.J (eu m)):=fun m a b=>WT ⟨a,b⟩;have hb:bg cs fs (.mk 2 n ks)=if n<0 then 126::eu (-n)else eu n:=SV ⟨i0,i1⟩;have tG:=SW ⟨i0,i1⟩;rw[SV ⟨i0,i1⟩]at tG;have c1:=qR 126;by_cases mG:n<0
    .have pD:=pD (-n) (by omega) (by omega);rw[if_pos mG]at hb tG;have tG:(eu (-n)).length+1<=11:=tG;focus
      refine Ew U<|Tf U<|Sk<|Sq<|Es<|Lv 1 U<|Lo (kl U g4 U) U<|Ld<|Sb<|Ew U<|Tt U<|Sq<|Es<|Lv 1 U<|Lo (kl U g4 U) U<|Lw U<|Cd U (fun h5=>?_) (fun h5=>?_);refine Es<|Lv 1 U<|Lo (kl U g4 U) U<|Lq (Yd U U (by omega)) U<|Lo (kc U (pD)) U<|Lq (Av U Zr U U (by omega)) U<|Lw U ?_;rotate_left;omega
     exact Se (AC ⟨.inl U,_,U,_,Aa U (Aa U U),fin _ k v _ _ Ng.refl mC U hb.symm⟩)
    .have pD:=pD n (by omega) (by omega);rw[if_neg mG]at hb;focus
      refine Ew U<|Tf U<|Sk<|Sq<|Es<|Lv 1 U<|Lo (kl U g4 U) U<|Ld<|Sb<|Ew U<|Tt U<|Sq<|Es<|Lv 1 U<|Lo (kl U g4 U) U<|Lw U<|Cd U (fun h5=>?_) (fun h5=>?_);omega;refine Sk<|Es<|Lv 1 U<|Lo (kl U g4 U) U<|Lo (kc U (pD)) U<|Lw U ?_;rotate_left
     exact Se (AC ⟨.inl U,_,U,_,Aa U (Aa U U),fin _ k v _ _ Ng.refl mC U hb.symm⟩)
   by_cases e1:o=1
   .subst e1;have Z2:ZZ n 0 19=true:=by
     unfold YJ at YA;rw[if_pos rfl]at YA;exact(Bool.and_eq_true_iff.1 YA).2
    obtain⟨i0,i1⟩:=aS.1 Z2;obtain⟨m,rfl⟩:=Int.eq_ofNat_of_zero_le i0;refine Ew U<|Tf U<|Sk<|Sq<|Es<|Lv 1 U<|Lo (kl U g4 U) U<|Ld<|Sb<|Ew U<|Tf U<|Ew U<|Tt U<|Es<|Lv 1 U<|Lo (kl U g3 U) U<|Lv 1 U<|Lo (kl U g4 U) U<|F6 U U U U U U U U U (Mb (by rw[Qn];have:=hp.a;omega) mC x5 (by omega) fun k' v' s' g m'=>?_);refine Lw U ?_;exact Se (AC ⟨.inl U,_,U,_,Aa U (Aa U U),fin _ k' v' _ _ g m' U U⟩)
   have ZV:=Di cs fs ks;have wL:=G9 hp.c hp.f ks hk;have sd:=H6 (bl cs fs ks);have ta:LF 106 [CY (bl cs fs ks)]=some (.J (mX (bl cs fs ks))):=hq_106 (by omega) (by omega);by_cases e3:o=3
   .subst e3;have Z2:ZZ n 0 ((cs.length:Int)-1)=true:=by
     unfold YJ at YA;rw[if_neg (by decide),if_neg (by decide),if_pos rfl]at YA;exact(Bool.and_eq_true_iff.1 YA).1
    obtain⟨i0,i1⟩:=aS.1 Z2;obtain⟨m,rfl⟩:=Int.eq_ofNat_of_zero_le i0;have hm:m<cs.length:=by omega
    have YK:=A6 A0 hm;have dH:=hp.c _ (Ql hm);have hb:bg cs fs (.mk 3 (m:Nat) ks)=cs[m].1++mX (bl cs fs ks):=by
     show r8 cs (m:Nat)++_=_;unfold r8;rw[Int.toNat_natCast,List.getD_eq_getElem?_getD,Qi hm];rfl
    unfold Cq at YK;refine Ew U<|Tf U<|Sk<|Sq<|Es<|Lv 1 U<|Lo (kl U g4 U) U<|Ld<|Sb<|Ew U<|Tf U<|Ew U<|Tf U<|Ew U<|Tt U<|Af (by kernel_rfl)<|Nv 2 U<|D3 U U (A4 EC E9 g3 U) U (.inl U) U U<|Nv 1 U<|D3 U U (A4 GM Eo g4 U) U (.inl U) U U<|Nq (kv U YK) U<|Nv 3 U<|Nm U g4 U (.inl U) U<|AI U U (AS IT IE g3 (Qc U)) U (.inl U) U U<|Nv 1 U<|B3 U U U U (OE hp hI (s:=sC.J sC.heap) (k:=k) (v:=v) lh (by omega) hk (mC.same U U) (Qj _) (R:=fun x s'=>x=CY (bl cs fs ks)/\∃k' v',Ng (sC.J sC.heap) s' bn bx v v'/\NM (fs.map Prod.fst) s' bb bn bx k' v') (RP:=fun _ _=>False) fun k' v' s' g m=>⟨rfl,k',v',g,m⟩) (IW U) U (.inl U) U U ?_ (fun _ _ h=>h.elim);rintro x s2 ⟨rfl,k1,v1,G,M⟩;obtain⟨n1,n2,G1,M1⟩:=G.merged M x5;refine⟨n1,fun c hc=>(n2 c hc).1,fun e he=>?_,fun kF dH=>?_⟩
    .rcases Qk.1 he with rfl|he
     .exact .inr (.inl (t_.off mC k4 n2))
     .rw[Qp.1 he];exact .inr (.inl (t_.off mC k3 n2))
    generalize sC.G s2=sD at*;refine Na (kC U (ta)) (.inl U) U<|Nq (Av U Zr U U (by omega)) U<|Nw U ?_;exact Se (AC ⟨.inl U,_,U,_,Aa U (Aa U U),fin _ k1 v1 _ _ G1 M1 U hb.symm⟩)
   by_cases e45:o=4\/o=5
   .have inF:ZZ n 0 ((fs.length:Int)-1)=true:=by
     unfold YJ at YA;rw[if_neg e1,if_neg e2,if_neg e3]at YA;rcases e45 with rfl|rfl
     .rw[if_pos rfl]at YA;exact(Bool.and_eq_true_iff.1 YA).1
     .rw[if_neg (by decide),if_pos rfl]at YA;exact(Bool.and_eq_true_iff.1 YA).1
    have Z2:ZZ n 0 ((fs.length:Int)-1)=true:=by
     exact inF
    obtain⟨i0,i1⟩:=aS.1 Z2;obtain⟨m,rfl⟩:=Int.eq_ofNat_of_zero_le i0;have hm:m<fs.length:=by omega
    have YK:=A6 A0 hm;have dH:=hp.f _ (Ql hm);have hb:bg cs fs (.mk o (m:Nat) ks)=fs[m].1++mX (bl cs fs ks):=by
     show ew cs fs o (m:Nat) ks _=_;unfold ew;rw[if_neg e1,if_neg e2,if_neg e3,if_pos e45];unfold r8;rw[Int.toNat_natCast,List.getD_eq_getElem?_getD,Qi hm];rfl
    unfold Cq at YK;focus
     refine Ew U<|Tf U<|Sk<|Sq<|Es<|Lv 1 U<|Lo (kl U g4 U) U<|Ld<|Sb<|Ew U<|Cd U (fun h5=>?_) (fun h5=>?_);omega;refine Ew U<|Cd U (fun h6=>?_) (fun h6=>?_);omega;refine Ew U<|Cd U (fun h7=>?_) (fun h7=>?_);omega;refine Ew U<|Cd U (fun h8=>?_) (fun h8=>?_);omega;refine Ew U<|Cd U (fun h9=>?_) (fun h9=>?_);omega;refine Sk ?_;rotate_left
    refine Af (by kernel_rfl)<|Nv 2 U<|D3 U U (A4 EC E9 g3 U) U (.inl U) U U<|Nv 1 U<|D3 U U (A4 GM Eo g4 U) U (.inl U) U U<|Nq (kv U YK) U<|Nv 3 U<|Nm U g4 U (.inl U) U<|AI U U (AS IT IE g3 (Qc U)) U (.inl U) U U<|Nv 1 U<|B3 U U U U (OE hp hI (s:=sC.J sC.heap) (k:=k) (v:=v) lh (by omega) hk (mC.same U U) (Qj _) (R:=fun x s'=>x=CY (bl cs fs ks)/\∃k' v',Ng (sC.J sC.heap) s' bn bx v v'/\NM (fs.map Prod.fst) s' bb bn bx k' v') (RP:=fun _ _=>False) fun k' v' s' g m=>⟨rfl,k',v',g,m⟩) (IW U) U (.inl U) U U ?_ (fun _ _ h=>h.elim);rintro x s2 ⟨rfl,k1,v1,G,M⟩;obtain⟨n1,n2,G1,M1⟩:=G.merged M x5;refine⟨n1,fun c hc=>(n2 c hc).1,fun e he=>?_,fun kF dH=>?_⟩
    .rcases Qk.1 he with rfl|he
     .exact .inr (.inl (t_.off mC k4 n2))
     .rw[Qp.1 he];exact .inr (.inl (t_.off mC k3 n2))
    generalize sC.G s2=sD at*;refine Na (kC U (ta)) (.inl U) U<|Nq (Av U Zr U U (by omega)) U<|Nw U ?_;exact Se (AC ⟨.inl U,_,U,_,Aa U (Aa U U),fin _ k1 v1 _ _ G1 M1 (by rw[Pc (by omega)];rfl) hb.symm⟩)
   have pair:YJ cs fs o n (ks.length:Nat)=true->(o=8\/o=9)->ks.length=2/\(o=8->ZZ n 0 19=true):=fun hn h89=>by
    unfold YJ at hn;rw[if_neg (by omega),if_neg (by omega),if_neg (by omega),if_neg (by omega),if_neg (by omega)]at hn;rcases h89 with rfl|rfl
    .rw[if_pos rfl]at hn;obtain⟨a,b⟩:=Bool.and_eq_true_iff.1 hn;have a:=dT a;exact⟨by omega,fun _=>b⟩
    .rw[if_neg (by decide),if_pos (by decide)]at hn;have a:=dT (Bool.and_eq_true_iff.1 hn).1;exact⟨by omega,fun h=>by omega⟩
   have h89:o=8\/o=9:=by
    have h6:¬(o=6\/o=7\/(10<=o/\o<=15)):=dF hio;unfold YJ at YA;rw[if_neg e1,if_neg e2,if_neg e3,if_neg (fun e=>e45 (.inl e)),if_neg (fun e=>e45 (.inr e))]at YA;by_cases e8:o=8
    .exact .inl e8
    .rw[if_neg e8]at YA;by_cases e615:6<=o/\o<=15
     .omega
     .rw[if_neg e615]at YA;cases YA
   obtain⟨h2,hvn⟩:=pair YA h89;clear pair ta ZV wL sd;obtain⟨a,b,rfl⟩:∃a b,ks=[a,b]:=by
    match ks,h2 with
    | [a,b],_=>exact⟨a,b,rfl⟩
   have qk:=BD (l:=[a,b]) (i:=0) (Nat.zero_lt_succ _);have ql:=BD (l:=[a,b]) (i:=1) (Nat.lt_succ_self _);have ea:=Ak a;have eb:=Ak b;rw[show [a,b][0]=a from rfl,ea]at qk;rw[show [a,b][1]=b from rfl,eb]at ql;have hss:C5 [a,b]=Ct a+(Ct b+0):=rfl;have hda:CL a<=Yl [a,b]:=Bg (Qh ..);have hdb:CL b<=Yl [a,b]:=Bg (Qg _ (Qh ..));have hta:=Da hk a (Qh ..);have vh:=Da hk b (Qg _ (Qh ..));have hla:=Fu hp.c hp.f a hta;have rk:=Fu hp.c hp.f b vh;rcases h89 with rfl|rfl
   .obtain⟨i0,i1⟩:=aS.1 (hvn rfl);obtain⟨m,rfl⟩:=Int.eq_ofNat_of_zero_le i0;have hb:bg cs fs (.mk 8 (m:Nat) [a,b])=[108,101,116,32]++jq (fs.map Prod.fst) m++[32,61,32]++bg cs fs a++[32,105,110,32]++bg cs fs b:=rfl;have uT:=ML (fs.map Prod.fst) m;have c1:({data:= #[108,101,116,32]}:ByteArray).data.toList.length=4:=rfl;have c2:({data:= #[32,61,32]}:ByteArray).data.toList.length=3:=rfl;have c3:({data:= #[32,105,110,32]}:ByteArray).data.toList.length=4:=rfl;refine Ew U<|Tf U<|Sk<|Sq<|Es<|Lv 1 U<|Lo (kl U g4 U) U<|Ld<|Sb<|Ew U<|Tf U<|Ew U<|Tf U<|Ew U<|Tf U<|Ew U<|Tt U<|Af (by kernel_rfl)<|Nv 1 U<|Nm U g3 U (.inl U) U<|Nv 1 U<|Nm U g4 U (.inl U) U<|RI U U U U U U (Mb (s:=sC.J sC.heap) (tk:=fs.map Prod.fst) (k:=k) (v:=v) (n:=m) (by rw[Qn];have:=hp.a;omega) (mC.same U U) (Qj _) (by omega) (R:=fun x s'=>x= .J (jq (fs.map Prod.fst) m)/\∃k' v',Ng (sC.J sC.heap) s' bn bx v v'/\NM (fs.map Prod.fst) s' bb bn bx k' v') (RP:=fun _ _=>False) fun k' v' s' g m=>⟨rfl,k',v',g,m⟩) (IW U) U (.inl U) U U ?_ (fun _ _ h=>h.elim);generalize jq (fs.map Prod.fst) m=X at*;rintro x s2 ⟨rfl,k1,v1,G,M⟩;obtain⟨n1,n2,G1,M1⟩:=G.merged M x5;refine⟨n1,fun c hc=>(n2 c hc).1,fun e he=>(by cases he),fun kF dH=>?_⟩;have hbD:=G1.qz x5;obtain⟨e3,q3⟩:=G1.kp mC k3;obtain⟨e4,q4⟩:=G1.kp mC k4;have g3:=e3.trans g3;have g4:=e4.trans g4;have off3:=t_.off mC k3 n2;have off4:=t_.off mC k4 n2;have lt3:=k3.lt;have lt4:=k4.lt;generalize sC.G s2=sD at*
    iterate 2 refine Nq (Av U Zr U U (by grind)) U ?_
    refine AI U U (AS IT IE g3 (Qj _)) (dH.clear U lt3 off3) (.inl U) U U<|Nv 1 U<|AI U U (A4 Ep En g4 U) (dH.clear U lt4 off4) (.inl U) U U<|Nq (kv (k:=0) U qk) U<|Nv 1 U<|B3 U U U (by rw[ea];rfl:_=some [w9 cs fs bn bx bb,.agg (Cf a)]) (ED hp hI (s:=sD.J sD.heap) (k:=k1) (v:=v1) (Nat.le_trans hda lh) (by omega) hta (M1.same U U) (Qj _) (R:=fun x s'=>x= .J (bg cs fs a)/\∃k' v',Ng (sD.J sD.heap) s' bn bx v1 v'/\NM (fs.map Prod.fst) s' bb bn bx k' v') (RP:=fun _ _=>False) fun k' v' s' g m=>⟨rfl,k',v',g,m⟩) (IW U) (dH.all U U) (.inl U) U U ?_ (fun _ _ h=>h.elim);rintro x s3 ⟨rfl,k2,v2,G,M⟩;obtain⟨m1,m2,G2,M2⟩:=G.merged M hbD;refine⟨m1,fun c hc=>(m2 c hc).1,fun e he=>(by cases he),fun nl3 x6=>?_⟩;have hbF:=G2.qz hbD;obtain⟨e3,r3⟩:=G2.kp M1 q3;obtain⟨e4,r4⟩:=G2.kp M1 q4;have g3:=e3.trans g3;have g4:=e4.trans g4
    have off3':=t_.off M1 q3 m2;have off4':=t_.off M1 q4 m2;have lt3':=q3.lt;have lt4':=q4.lt;generalize sD.G s3=sF at*;iterate 2 refine Nq (Av U Zr U U (by grind)) U ?_
    refine AI U U (AS IT IE g3 (Qj _)) (x6.clear (dH.clear U lt3 off3) lt3' off3') (.inl U) U U<|Nv 1 U<|AI U U (A4 Ep En g4 U) (x6.clear (dH.clear U lt4 off4) lt4' off4') (.inl U) U U<|Nq (kv (k:=1) U ql) U<|Nv 1 U<|B3 (by kernel_rfl) U U (by rw[eb];rfl:_=some [w9 cs fs bn bx bb,.agg (Cf b)]) (ED hp hI (s:=sF.J sF.heap) (k:=k2) (v:=v2) (Nat.le_trans hdb lh) (by omega) vh (M2.same U U) (Qj _) (R:=fun x s'=>x= .J (bg cs fs b)/\∃k' v',Ng (sF.J sF.heap) s' bn bx v2 v'/\NM (fs.map Prod.fst) s' bb bn bx k' v') (RP:=fun _ _=>False) fun k' v' s' g m=>⟨rfl,k',v',g,m⟩) (IW (by kernel_rfl)) (x6.all (dH.all U (by kernel_rfl)) (by kernel_rfl)) (.inl U) U U ?_ (fun _ _ h=>h.elim);rintro x s4 ⟨rfl,k3',v3,G,M⟩;obtain⟨o1,o2,G3,M3⟩:=G.merged M hbF;refine⟨o1,fun c hc=>(o2 c hc).1,fun e he=>(by cases he),fun nl4 hnl4=>?_⟩;generalize sF.G s4=sG at*
    refine Nq (Av U Zr U U (by grind)) U<|Nw U ?_;exact Se (AC ⟨.inl U,_,U,_,Aa U (Aa U U),fin _ k3' v3 _ _ ((G1.trans G2 x5).trans G3 x5) M3 U hb.symm⟩)
   .have hb:bg cs fs (.mk 9 n [a,b])=[119,104,101,110,32]++bg cs fs a++[32,116,104,101,110,32]++bg cs fs b:=rfl;have c1:({data:= #[119,104,101,110,32]}:ByteArray).data.toList.length=5:=rfl;have c2:({data:= #[32,116,104,101,110,32]}:ByteArray).data.toList.length=6:=rfl;refine Ew U<|Tf U<|Sk<|Sq<|Es<|Lv 1 U<|Lo (kl U g4 U) U<|Ld<|Sb<|Ew U<|Tf U<|Ew U<|Tf U<|Ew U<|Tf U<|Ew U<|Tf U<|Ew U<|Tt U<|Af (by kernel_rfl)<|AI U U (AS IT IE g3 (Qc U)) U (.inl U) U U<|Nv 1 U<|Nm U g4 U (.inl U) U<|Nq (kv (k:=0) U qk) U<|Nv 1 U<|B3 U U U (by rw[ea];rfl:_=some [w9 cs fs bn bx bb,.agg (Cf a)]) (ED hp hI (s:=sC.J sC.heap) (k:=k) (v:=v) (Nat.le_trans hda lh) (by omega) hta (mC.same U U) (Qj _) (R:=fun x s'=>x= .J (bg cs fs a)/\∃k' v',Ng (sC.J sC.heap) s' bn bx v v'/\NM (fs.map Prod.fst) s' bb bn bx k' v') (RP:=fun _ _=>False) fun k' v' s' g m=>⟨rfl,k',v',g,m⟩) (IW U) U (.inl U) U U ?_ (fun _ _ h=>h.elim);rintro x s2 ⟨rfl,k1,v1,G,M⟩;obtain⟨n1,n2,G1,M1⟩:=G.merged M x5;refine⟨n1,fun c hc=>(n2 c hc).1,fun e he=>(by cases he),fun kF dH=>?_⟩;have hbD:=G1.qz x5;obtain⟨e3,q3⟩:=G1.kp mC k3;obtain⟨e4,q4⟩:=G1.kp mC k4;have g3:=e3.trans g3;have g4:=e4.trans g4;have off3:=t_.off mC k3 n2;have off4:=t_.off mC k4 n2;have lt3:=k3.lt;have lt4:=k4.lt;generalize sC.G s2=sD at*
    iterate 2 refine Nq (Av U Zr U U (by grind)) U ?_
    refine AI U U (AS IT IE g3 (Qj _)) (dH.clear U lt3 off3) (.inl U) U U<|Nv 1 U<|AI U U (A4 Ep En g4 U) (dH.clear U lt4 off4) (.inl U) U U<|Nq (kv (k:=1) U ql) U<|Nv 1 U<|B3 U U U (by rw[eb];rfl:_=some [w9 cs fs bn bx bb,.agg (Cf b)]) (ED hp hI (s:=sD.J sD.heap) (k:=k1) (v:=v1) (Nat.le_trans hdb lh) (by omega) vh (M1.same U U) (Qj _) (R:=fun x s'=>x= .J (bg cs fs b)/\∃k' v',Ng (sD.J sD.heap) s' bn bx v1 v'/\NM (fs.map Prod.fst) s' bb bn bx k' v') (RP:=fun _ _=>False) fun k' v' s' g m=>⟨rfl,k',v',g,m⟩) (IW U) (dH.all U U) (.inl U) U U ?_ (fun _ _ h=>h.elim);rintro x s3 ⟨rfl,k2,v2,G,M⟩;obtain⟨m1,m2,G2,M2⟩:=G.merged M hbD;refine⟨m1,fun c hc=>(m2 c hc).1,fun e he=>(by cases he),fun nl3 x6=>?_⟩;generalize sD.G s3=sF at*;refine Nq (Av U Zr U U (by grind)) U<|Nw U ?_;exact Se (AC ⟨.inl U,_,U,_,Aa U (Aa U U),fin _ k2 v2 _ _ (G1.trans G2 x5) M2 U hb.symm⟩)
end
def Z6 (p:ZM) (t:Cc):Zi×Int:=if(ax p&&CQ p.a p.c t)=true then(if ZY p.a p.c=true then(if 3000<(bg p.a p.c t).length then([],3)else(bg p.a p.c t,0))else([],7))else([],2)
abbrev q8 (x:Zi×Int):AV:= .O [.J x.1,.int .i64 x.2]
theorem goalV_eq (p:ZM) (t:Cc):oL p t=q8 (Z6 p t):=by
 unfold oL Z6 jS q8;repeat' split
 all_goals rfl
theorem Xc {p:ZM} {t:Cc} (h:(Z6 p t).2≠0):(Z6 p t).1=[]:=by
 unfold Z6 at h|-;repeat' split
 all_goals first|rfl|(exfalso;simp_all)
set_option maxRecDepth 4000 in
theorem VY {cs fs:List Ci} (hp:eG cs fs) {s:St} {p:Nat} (hb:s.b<=s.a) {R RP:AV->St->Prop} (hR:ZY cs fs=true->∀s',Y7 s s' p->R (.O []) s') (hP:ZY cs fs=false->∀s',Y7 s s' p->RP (oN 7) s'):
 YG (EK LF) 57 [CH cs fs] s R RP:=by
 unfold CH;have bu:=hp.b;have zi:=hp.a;refine YG.unit (fn:=Tryz.f57) U U U U U U ?_;have hE:s.u.b<=s.u.a:=Qj _;have g0:(s.u.A (.J [Cp Cq 2 cs,Cp Cq 2 fs] 40 false)).heap.u s.a=some (.J [Cp Cq 2 cs,Cp Cq 2 fs] 40 false):=A1;have G0:Y7 s.u (s.u.A (.J [Cp Cq 2 cs,Cp Cq 2 fs] 40 false)) p:=Y7.B hE;refine Es<|Lo (ZU.box U U U) U<|Ld<|Sq<|Es<|Lv 1 U<|Lo (kl U g0 U) U<|Lw U<|Sb<|Ai (fun x:Nat×St=>([(9,.int .i64 (x.1:Nat)),(8,.int .i64 (cs.length:Nat)),(7,Cp Cq 2 cs),(1,.Z s.a 0)],x.2)) (fun x=>cs.length-x.1) (fun x=>x.1<=cs.length/\Y7 s.u x.2 p/\x.2.c=[]/\s.a<x.2.a/\x.2.heap.u s.a=some (.J [Cp Cq 2 cs,Cp Cq 2 fs] 40 false)/\∀j (hj:j<cs.length),j<x.1->aq cs[j].1=true) (0,s.u.A (.J [Cp Cq 2 cs,Cp Cq 2 fs] 40 false)) ⟨Qo _,G0,rfl,Nat.lt_succ_self _,g0,fun _ _ h=>absurd h (Nat.not_lt_zero _)⟩ U (Ac (by trivial)) ?_;clear g0 G0;rintro⟨i,st⟩ ⟨hi,hg,Z9,C8,h0,ha⟩;dsimp only at hi hg Z9 C8 h0 ha|-;have tF:=hg.I hE;by_cases h:i<cs.length
 .have YK:=A6 A0 h;unfold Cq at YK;obtain⟨a1,a2,a3,a4,a5,a6,a7⟩:=FY (st:=st) (z:=[.J [],.int .i64 0]) (cs:=[.J cs[i].1,.int .i64 cs[i].2]) (T:=137);have hit_104:LF 104 [.J cs[i].1]=some (.bool (aq cs[i].1)):=hq_104 (by have:=hp.c _ (Ql h);omega);have gI:Y7 s.u ((st.A (.J [.J [],.int .i64 0] 137 false)).B st.a (some (.J [.J cs[i].1,.int .i64 cs[i].2] 137 false))) p:=hg.trans (Y7.own tF rfl) hE;have lI:=(a6 tF).trans Z9;have bI:=gI.I hE;have hk1:=(a4 s.a (by omega)).trans h0;focus
   refine Ew U<|Sq<|Cd U (fun h1=>?_) (fun h1=>?_);refine Sk<|Sq<|Sb<|Es<|Lq (kv U YK) U<|Lv 1 U<|Lo (kz U) U<|Ln (kw U a1 U) U<|Ld<|Sr<|Lv 1 U<|Lo (kl U a2 U) U<|Lo (kc U (hit_104)) U<|Lv 1 U ?_;rotate_left;omega
  refine D4 fun sX bm=>?_;have bm:sX=(st.A (.J [.J [],.int .i64 0] 137 false)).B st.a (some (.J [.J cs[i].1,.int .i64 cs[i].2] 137 false)):=bm;rw[<-bm]at a2 gI lI bI hk1;have nX:s.a<sX.a:=by rw[bm];exact Nat.lt_succ_of_lt C8
  clear a1 a3 a4 a5 a6 a7 bm;refine Bk U U U U U U U (M4 bI (fun hq=>?_) fun hq=>?_)
  .refine Ld<|Sr<|Lq (ka (b:=1) U (by omega)) U<|Lw U ?_;exact⟨(i+1,sX),⟨h,gI,lI,nX,hk1,BR (P:=fun q:Ci=>aq q.1=true) (h:=h) ha (by cases hh:aq cs[i].1<;>simp_all)⟩,by show cs.length-(i+1)<cs.length-i;omega,rfl,rfl,Ac (by trivial)⟩
  .exact⟨rfl,hP (by unfold ZY;rw[F9 (f:=fun q:Ci=>aq q.1) h (by cases hh:aq cs[i].1<;>simp_all)];rfl) _ (gI.u hb)⟩
 .have ZI:cs.all (fun q:Ci=>aq q.1)=true:=Ei fun j hj=>ha j hj (by omega);clear ha;focus
   refine Ew U<|Sq<|Cd U (fun h1=>?_) (fun h1=>?_);omega;refine Sx<|Ax U<|Es<|Lv 1 U<|Lo (kl U h0 U) U<|Lw U<|Sb ?_;rotate_left
  refine Ai (fun x:Nat×St=>([(22,.int .i64 (x.1:Nat)),(21,.int .i64 (fs.length:Nat)),(20,Cp Cq 2 fs)],x.2)) (fun x=>fs.length-x.1) (fun x=>x.1<=fs.length/\Y7 s.u x.2 p/\x.2.c=[]/\∀j (hj:j<fs.length),j<x.1->YM fs[j].1=true) (0,st) ⟨Qo _,hg,Z9,fun _ _ h=>absurd h (Nat.not_lt_zero _)⟩ U (Ac (by trivial)) ?_;clear hg Z9 C8 h0 tF hi h;rintro⟨i,st⟩ ⟨hi,hg,Z9,ha⟩;dsimp only at hi hg Z9 ha|-;have tF:=hg.I hE;by_cases h:i<fs.length
  .have YK:=A6 A0 h;unfold Cq at YK;obtain⟨a1,a2,a3,a4,a5,a6,a7⟩:=FY (st:=st) (z:=[.J [],.int .i64 0]) (cs:=[.J fs[i].1,.int .i64 fs[i].2]) (T:=137);have hit_120:LF 120 [.J fs[i].1]=some (.bool (YM fs[i].1)):=hq_120 (by have:=hp.f _ (Ql h);omega);have gI:Y7 s.u ((st.A (.J [.J [],.int .i64 0] 137 false)).B st.a (some (.J [.J fs[i].1,.int .i64 fs[i].2] 137 false))) p:=hg.trans (Y7.own tF rfl) hE;have lI:=(a6 tF).trans Z9;have bI:=gI.I hE;focus
    refine Ew U<|Sq<|Cd U (fun h2=>?_) (fun h2=>?_);refine Sk<|Sq<|Sb<|Es<|Lq (kv U YK) U<|Lv 1 U<|Lo (kz U) U<|Ln (kw U a1 U) U<|Ld<|Sr<|Lv 1 U<|Lo (kl U a2 U) U<|Lo (kc U (hit_120)) U<|Lv 1 U ?_;rotate_left;omega
   refine D4 fun sX bm=>?_;have bm:sX=(st.A (.J [.J [],.int .i64 0] 137 false)).B st.a (some (.J [.J fs[i].1,.int .i64 fs[i].2] 137 false)):=bm;rw[<-bm]at a2 gI lI bI;clear a1 a3 a4 a5 a6 a7 bm;refine Bk U U U U U U U (M4 bI (fun hq=>?_) fun hq=>?_)
   .refine Ld<|Sr<|Lq (ka (b:=1) U (by omega)) U<|Lw U ?_;exact⟨(i+1,sX),⟨h,gI,lI,BR (P:=fun q:Ci=>YM q.1=true) (h:=h) ha (by cases hh:YM fs[i].1<;>simp_all)⟩,by show fs.length-(i+1)<fs.length-i;omega,rfl,rfl,Ac (by trivial)⟩
   .exact⟨rfl,hP (by unfold ZY;rw[ZI,F9 (f:=fun q:Ci=>YM q.1) h (by cases hh:YM fs[i].1<;>simp_all)];rfl) _ (gI.u hb)⟩
  .have hall2:fs.all (fun q:Ci=>YM q.1)=true:=Ei fun j hj=>ha j hj (by omega);focus
    refine Ew U<|Sq<|Cd U (fun h2=>?_) (fun h2=>?_);omega;refine Sx<|Ax U ?_;rotate_left
   have vU:ZY cs fs=true:=by unfold ZY;rw[ZI,hall2];rfl
   exact⟨.inr U,rfl,fun _=>hR vU s Y7.A,hR vU _ (hg.u hb)⟩
theorem Wy {tk:List Zi} {s:St} (hb:s.b<=s.a) {R RP:AV->St->Prop}
 (hR:∀s',YS s s' (fun _=>False)->Cu s s'->NM tk s' s.a (s.a+1) (s.a+2) 0 .Ca->R (NF (s.a+1) (s.a+2) s.a) s'):YG (EK LF) 47 [CY tk] s R RP:=by
 refine Ar U ?_;have hE:s.u.b<=s.u.a:=Qj _;have hform:CY tk= .Ca\/∃cs n,CY tk= .Ck cs n 1 true:=(EM (tk.map AV.J) tk.length 1).imp id fun h=>⟨_,_,h⟩;have key:∀vt,CY tk=vt->(vt= .Ca\/∃cs n,vt= .Ck cs n 1 true)->∀sX,sX=((s.u.A (.J [vt] 67 false)).A (.J [.Ca] 67 false)).A (.J [.int .i64 0] 3 false)->∃cr,k_ (EK LF) 47 s (NF (s.a+1) (s.a+2) s.a) (sX.B (s.a+2) (some (.J [.int .i64 0] 3 false)))=some cr/\match cr with
  | .same v=>R v s
  | .J v s'=>R v s'
  | .O _ _=>False:=fun vt xL _ sX bm=>by
  have x1:sX.heap.u s.a=some (.J [vt] 67 false):=by rw[bm];exact(Au (show s.a<s.a+2 by omega)).trans ((Au (Nat.lt_succ_self _)).trans A1)
  have x2:sX.heap.u (s.a+1)=some (.J [.Ca] 67 false):=by rw[bm];exact(Au (show s.a+1<s.a+2 by omega)).trans A1
  have nX:sX.a=s.a+3:=by rw[bm];rfl
  have cX:YS s.u sX (fun _=>False):=by
   rw[bm];exact(YS.u.trans YS.u (own:=fun _=>False) (o1:=fun _=>False) (o2:=fun _=>False) (fun _ h=>h) (fun _ h=>h.elim) hE).trans YS.u (o2:=fun _=>False) (fun _ h=>h) (fun _ h=>h.elim) hE
  have lX:Cu s.u sX:=by
   rw[bm];exact((Cu.u hE).trans (Cu.u (Nat.le_succ_of_le hE))).trans (Cu.u (Nat.le_succ_of_le (Nat.le_succ_of_le hE)))
  clear bm;have cP:YS s.u (sX.B (s.a+2) (some (.J [.int .i64 0] 3 false))) (fun _=>False):=cX.trans YS.B (fun _ h=>h) (fun c h=> .inr (by rw[h];show s.a<=_;omega)) hE;have lP:=lX.trans (Cu.A (b:=s.a+2) (o:=some (.J [.int .i64 0] 3 false)));have p0:∀c,c≠s.a+2->(sX.B (s.a+2) (some (.J [.int .i64 0] 3 false))).heap.u c=sX.heap.u c:=fun c hc=>AF.trans (if_neg hc);have hM:NM tk (sX.B (s.a+2) (some (.J [.int .i64 0] 3 false))) s.a (s.a+1) (s.a+2) 0 .Ca:=⟨(p0 _ (by omega)).trans x2,c_.nil _ _ _,AF.trans (if_pos rfl),(p0 _ (by omega)).trans (by rw[xL];exact x1),Nat.lt_succ_self _,Nat.lt_succ_self _,by show s.a+2<sX.a;omega,(fun _ h=>by cases h),Qo _⟩
  have hu:Cw s.a 40 (NF (s.a+1) (s.a+2) s.a)=false:=by
   show(Nat.blt (s.a+1) s.a&&_)=false;rw[show Nat.blt (s.a+1) s.a=false from(by rw[<-Bool.not_eq_true,Nat.blt_eq];omega)];rfl
  exact⟨.J (NF (s.a+1) (s.a+2) s.a) _,ES U (Ns cP) U hu,hR _ (YS.A cP) (Cu.G lP hb) (hM.same U U)⟩
 generalize CY tk=vt at*;have key:=key vt rfl hform;rcases hform with rfl|⟨cs,n,rfl⟩
 all_goals
  refine Es<|Lo (ZU.box U U U) U<|Lw U<|Es<|Lo (kz U) U<|Ld<|Es<|Lo (kz U) U<|D4 fun sX bm=>?_;have k2:=key sX bm;have x3:sX.heap.u (s.a+2)=some (.J [.int .i64 0] 3 false):=by rw[bm];exact A1
  clear bm key;refine Ln (kw U x3 U) U<|Ld<|Ew U ?_;exact Se (AC ⟨.inl U,_,U,_,Aa U U,k2⟩)
theorem Y7.ng {s s1 s2:St} {p bn bx:Nat} {v v':AV} (g:Y7 s.u s1 p) (h:Ng s1 s2 bn bx v v') (h1:s.a<=bn) (h2:s.a<=bx) (h3:∀c,CT c v=true->s.a<=c):Y7 s.u s2 p:=
 ⟨g.a.trans h.eQ (fun _ h=>h) (fun c hc=> .inr (by
  rcases hc with rfl|rfl|hc
  .exact h1
  .exact h2
  .exact h3 c hc)) (Qj _),g.b.trans h.pB⟩
set_option maxRecDepth 4000 in
theorem Ug {p:ZM} {t:Cc} (hp:dD p) (ht:Ct t<=1000) {s:St} {b0 b1 q:Nat} (g0:s.heap.u b0=some (.J (Zf p) 43 false)) (g1:s.heap.u b1=some (.J (Cf t) 47 false)) (l0:b0<s.a) (l1:b1<s.a) (hb:s.b<=s.a) {R RP:AV->St->Prop}
 (hR:(ax p&&CQ p.a p.c t)=true->ZY p.a p.c=true->∀s',Y7 s s' q->R (.J (bg p.a p.c t)) s') (hP2:(ax p&&CQ p.a p.c t)=false->RP (oN 2) s) (hP7:(ax p&&CQ p.a p.c t)=true->ZY p.a p.c=false->∀s',Y7 s s' q->RP (oN 7) s'):
 YG (EK LF) 54 [.Z b0 0,.Z b1 0] s R RP:=by
 refine Ar U ?_;have hE:s.u.b<=s.u.a:=Qj _;have oi:LF 55 [.agg (Zf p)]=some (.bool (ax p)):=hq_55 hp;obtain⟨cs,fs,rs⟩:=p;obtain⟨hn,hrl,hr⟩:=hp;dsimp only at hn hrl hr hR hP2 hP7;have bu:=hn.b;have zi:=hn.a;have hs:YN t:=Dl t (by omega);have iQ:ax ⟨cs,fs,rs⟩=true->LF 56 [CH cs fs,.agg (Cf t)]=some (.int .i64 (if CQ cs fs t then 0 else 2)):=fun h=>by
  have kG:al cs fs=true:=by
   unfold ax at h;exact(Bool.and_eq_true_iff.1 h).1
  exact hq_56 (by omega) (by omega) hs (fun q hq=>Nat.le_trans (hn.c q hq) (by decide)) (fun q hq=>Nat.le_trans (hn.f q hq) (by decide)) kG
 have xH:LF 58 [CH cs fs]=some (CY (fs.map Prod.fst)):=hq_58 (by omega);have ee:=Ak t;unfold CH at iQ xH;unfold Zf at g0 oi;dsimp only at g0 oi;have g0:s.u.heap.u b0=some (.J [Cp Cq 2 cs,Cp Cq 2 fs,Cp Yx 6 rs] 43 false):=g0;have g1:s.u.heap.u b1=some (.J (Cf t) 47 false):=g1;rw[ee]at g1 iQ;generalize ax ⟨cs,fs,rs⟩=B at*;cases B with
 |false=>
  refine Ew U<|Es<|Lo (kL U g0 U) U<|Lo (kc U (oi)) U<|Lv 8 U<|Bk U U (by kernel_rfl) U U U U (S5 ?_);exact⟨U,hP2 U⟩
 |true=>
  have iQ:=iQ rfl;cases vh:CQ cs fs t with
  |false=>
   rw[vh]at iQ hP2;have cq:LF 56 [.agg [Cp Cq 2 cs,Cp Cq 2 fs],.agg [.int .i64 t.op,.int .i64 t.n,Cs t.u]]=some (.int .i64 2):=iQ;refine Ew U<|Es<|Lo (kL U g0 U) U<|Lo (kc U (oi)) U<|Lv 3 U ?_;iterate 2 refine Lg U U (kL U ‹_› U) ?_
   refine Lg U U (kc U (cq))<|Lv 2 U<|Bk U U (by kernel_rfl) U U U U (S5 ?_);exact⟨U,hP2 U⟩
  |true=>
   rw[vh]at iQ hR hP7;have cq:LF 56 [.agg [Cp Cq 2 cs,Cp Cq 2 fs],.agg [.int .i64 t.op,.int .i64 t.n,Cs t.u]]=some (.int .i64 0):=iQ;clear iQ hP2;refine Ew U<|Es<|Lo (kL U g0 U) U<|Lo (kc U (oi)) U<|Lv 3 U ?_;iterate 2 refine Lg U U (kL U ‹_› U) ?_
   refine Lg U U (kc U (cq))<|Lv 2 U<|Lo (Dq U U U U (VK)) U<|Ld<|Es<|Lv 1 U<|Lo (kL U g0 U) U<|Bk U U U U U U U (VY hn (p:=s.a) hE (fun hg s1 G1=>?_) fun hg s1 G1=>?_);rotate_left
   .exact⟨U,hP7 U hg _ ((Y7.A.G G1 (Qj _)).u hb)⟩
   have hR:=hR rfl hg;have q1:∀c,c<s.a->s1.heap.u c=s.u.heap.u c:=fun c hc=>G1.a.heap c hc (by omega);have k0:=(q1 b0 l0).trans g0;have k1:=(q1 b1 l1).trans g1;have n1:s.a<=s1.a:=G1.a.a;have oU:=G1.I hE;have GG:Y7 s.u s1 q:=Y7.A.G G1 (Qj _);clear q1 G1 hP7 g0 g1 oi cq;have hit_58:=xH;refine Ld<|Af U<|Nv 1 U<|D3 U U (AS Qs Oe k0 (Qc U)) U (.inl U) U U<|Nv 1 U<|AI U U (AS Qs Oe k0 (Qc U)) U (.inl U) U U<|Na (kC U (hit_58)) (.inl U) U ?_;have hbs1:s1.b<=s1.a:=oU
   refine B3 U U U U (Wy (tk:=fs.map Prod.fst) (s:=s1.J s1.heap) (Qj _) (R:=fun x s'=>x=NF (s1.a+1) (s1.a+2) s1.a/\YS (s1.J s1.heap) s' (fun _=>False)/\Cu (s1.J s1.heap) s'/\NM (fs.map Prod.fst) s' s1.a (s1.a+1) (s1.a+2) 0 .Ca) (RP:=fun _ _=>False) fun s' c l m=>⟨rfl,c,l,m⟩) (IW U) U (.inl U) U U ?_ (fun _ _ h=>h.elim);rintro x s3 ⟨rfl,c3,l3,m3⟩;obtain⟨z1,z2,G3,M3⟩:=(Ng.of (bn:=s1.a+1) (bx:=s1.a+2) (v:= .Ca) c3 l3).merged m3 hbs1;have CU:∀c,c∉s3.c:=fun c hc=>by
    rcases c3.d c hc with h|h
    .cases h
    .exact h.2
   refine⟨z1,fun c hc=>absurd hc (CU c),fun e he=> .inr (.inl (CU _)),fun kF dH=>?_⟩;have k3:∀c,c<s1.a->(s1.G s3).heap.u c=s1.heap.u c:=fun c hc=>G3.eQ.heap c hc fun h=>by
    rcases h with h|h|h
    .omega
    .omega
    .cases h
   have k1:=(k3 b1 (by omega)).trans k1;have hbm:=G3.qz hbs1;generalize s1.G s3=s4 at*;refine Nv 1 U<|AI U U (AS NN Ic k1 (Qj _)) (dH.clear U (by omega) (CU _)) (.inl U) U U<|B3 U U U (by rw[ee];rfl:_=some [w9 cs fs (s1.a+1) (s1.a+2) s1.a,.agg (Cf t)]) (ED hn (Pn hn (CL t)) (s:=s4.J s4.heap) (k:=0) (v:= .Ca) (Qj _) ht (Hn vh) (M3.same U U) (Qj _) (R:=fun x s'=>∃k' v',x= .J (bg cs fs t)/\Ng (s4.J s4.heap) s' (s1.a+1) (s1.a+2) .Ca v'/\NM (fs.map Prod.fst) s' s1.a (s1.a+1) (s1.a+2) k' v') (RP:=fun _ _=>False) fun k' v' s' g m=>⟨k',v',rfl,g,m⟩) (IW U) (dH.all U U) (.inl U) U U ?_ (fun _ _ h=>h.elim);rintro x s5 ⟨k',v',rfl,G5,M5⟩;obtain⟨y1,y2,G6,M6⟩:=G5.merged M5 hbm;refine⟨y1,fun c hc=>(y2 c hc).1,fun e he=> .inr (.inl fun hm=>?_),fun nl3 x6=>?_⟩
   .rw[Qp.1 he]at hm;have hm:b0∈s5.c:=hm;rcases(y2 _ hm).2 with h|h|h
    .omega
    .omega
    .cases h
   generalize s4.G s5=s6 at*;have G4:Y7 s.u s4 q:=GG.ng G3 (by omega) (by omega) (fun _ h=>by cases h);have G7:Y7 s.u s6 q:=G4.ng G6 (by omega) (by omega) (fun _ h=>by cases h);generalize bg cs fs t=w at*;refine Nw U ?_;exact Se (AC ⟨.inl U,_,rfl,_,Aa U U,AQ U (fun _ _=>rfl) (fun _=>rfl) (fun _=>hR s Y7.A) fun _=>hR _ (G7.u hb)⟩)
theorem goalP_2 {p:ZM} {t:Cc} (h:(ax p&&CQ p.a p.c t)=false):Z6 p t=([],2):=by unfold Z6;rw[h];rfl
theorem goalP_7 {p:ZM} {t:Cc} (h:(ax p&&CQ p.a p.c t)=true) (h2:ZY p.a p.c=false):Z6 p t=([],7):=by unfold Z6;rw[h,h2];rfl
theorem goalP_3 {p:ZM} {t:Cc} (h:(ax p&&CQ p.a p.c t)=true) (h2:ZY p.a p.c=true) (h3:3000<(bg p.a p.c t).length):Z6 p t=([],3):=by unfold Z6;rw[h,h2,if_pos rfl,if_pos rfl,if_pos h3]
theorem goalP_0 {p:ZM} {t:Cc} (h:(ax p&&CQ p.a p.c t)=true) (h2:ZY p.a p.c=true) (h3:¬3000<(bg p.a p.c t).length):Z6 p t=(bg p.a p.c t,0):=by unfold Z6;rw[h,h2,if_pos rfl,if_pos rfl,if_neg h3]
set_option maxRecDepth 4000 in
theorem OC {p:ZM} {t:Cc} (hp:dD p) (ht:Ct t<=1000) {s:St} {b0 b1 b2 q:Nat} {e2:TypeId} (g0:s.heap.u b0=some (.J (Zf p) 43 false)) (g1:s.heap.u b1=some (.J (Cf t) 47 false)) (g2:s.heap.u b2=some (.J [.G' (.func 54) [] [.Z b0 0,.Z b1 0]] e2 false))
 (gp:s.heap.u q=some (.J [.J []] 9 false)) (l0:b0<s.a) (l1:b1<s.a) (l2:b2<s.a) (lp:q<s.a) (hb:s.b<=s.a) {R RP:AV->St->Prop}
 (hR:(Z6 p t).2=0->∀s',Y7 s s' q->s'.heap.u q=some (.J [.J (Z6 p t).1] 9 false)->R (.O []) s') (hP:(Z6 p t).2≠0->∀s',Y7 s s' q->RP (oN (Z6 p t).2) s'):YG (EK LF) 103 [.Z b2 0,.Z q 0] s R RP:=by
 refine YG.unit (fn:=Tryz.f103) U U U U U U ?_;have hE:s.u.b<=s.u.a:=Qj _;have g2:s.u.heap.u b2=some (.J [.G' (.func 54) [] [.Z b0 0,.Z b1 0]] e2 false):=g2;refine Es<|Lo (kl U g2 U) U<|F6 U U U U U U U U U (Ug hp ht (s:=s.u) (q:=s.a) g0 g1 l0 l1 hE (fun c1 c2 s1 G1=>?_) (fun c1=>?_) fun c1 c2 s1 G1=>?_)
 .have hq:=(G1.a.heap q lp (by omega)).trans gp;have GG:Y7 s.u s1 q:=Y7.A.G G1 (Qj _);have e0:=goalP_0 (p:=p) (t:=t) c1 c2;have e3:=goalP_3 (p:=p) (t:=t) c1 c2;generalize bg p.a p.c t=W at*;generalize Z6 p t=gp at*;have tL:(s1.B q (some (.J [.J W] 9 false))).heap.u q=some (.J [.J W] 9 false):=AF.trans (if_pos rfl);focus
   refine Ln (kw U hq U) U<|Ld<|Sr<|Lo (kl U tL U) U<|Lq (Az U U U U Zr U) U<|Lv 1 U<|F4 (k:=6) U (fun g3=>?_) (fun g3=>?_);have h3:=dT g3;refine Bk U U U U U U U (S5 ?_);rotate_left;have h3:=dF g3;refine Lo (Dq U U U U (VK)) U<|Ld ?_;rotate_left
  .have e3:=e3 (by omega);subst e3;exact⟨rfl,hP (fun h=>by cases h) _ ((GG.trans Y7.J hE).u hb)⟩
  .have e0:=e0 (by omega);subst e0;exact⟨.inr U,rfl,fun hl=>absurd hl (LQ (.inr (by rw[GG.a.b];exact lp))),hR U _ ((GG.trans Y7.J hE).u hb) tL⟩
 .have e:=goalP_2 (p:=p) (t:=t) c1;rw[e]at hP;exact⟨U,hP (by decide) _ (Y7.A.u hb)⟩
 .have e:=goalP_7 (p:=p) (t:=t) c1 c2;rw[e]at hP;exact⟨U,hP (by decide) _ ((Y7.A.G G1 (Qj _)).u hb)⟩
theorem QZ {p:ZM} {t:Cc} (hp:dD p) (ht:Ct t<=1000) {s:St} {b0 b1:Nat} (g0:s.heap.u b0=some (.J (Zf p) 43 false)) (g1:s.heap.u b1=some (.J (Cf t) 47 false)) (l0:b0<s.a) (l1:b1<s.a) (hb:s.b<=s.a) {R RP:AV->St->Prop}
 (hR:∀s',Y7 s s' s.a->R (q8 (Z6 p t)) s'):YG (EK LF) 43 [.G' (.func 54) [] [.Z b0 0,.Z b1 0]] s R RP:=by
 refine Ar U ?_;have hE:s.u.b<=s.u.a:=Qj _;refine Es<|Lo (ZU.box U U U) U<|Lw U<|Es<|Lo (kz U) U<|D4 fun sX bm=>?_;have bm:sX=(s.u.A (.J [.G' (.func 54) [] [.Z b0 0,.Z b1 0]] 108 false)).A (.J [.J []] 9 false):=bm;have x1:sX.heap.u s.a=some (.J [.G' (.func 54) [] [.Z b0 0,.Z b1 0]] 108 false):=by rw[bm];exact(Au (Nat.lt_succ_self _)).trans A1
 have x2:sX.heap.u (s.a+1)=some (.J [.J []] 9 false):=by rw[bm];exact A1
 have q1:∀c,c<s.a->sX.heap.u c=s.heap.u c:=fun c hc=>by rw[bm];exact(Au (show c<s.a+1 by omega)).trans (Au hc)
 have nX:sX.a=s.a+2:=by rw[bm];rfl
 have gX:Y7 s.u sX s.a:=by rw[bm];exact(Y7.B hE).trans (Y7.B (Nat.le_succ_of_le hE)) hE
 clear bm;refine Ln (kw U x2 U) U<|Ld<|AJ fun sP wz=>?_;have wz:sP=sX.B (s.a+1) (some (.J [.J []] 9 false)):=wz;have p0:∀c,c≠s.a+1->sP.heap.u c=sX.heap.u c:=fun c hc=>by rw[wz];exact AF.trans (if_neg hc)
 have p1:sP.heap.u (s.a+1)=some (.J [.J []] 9 false):=by rw[wz];exact AF.trans (if_pos rfl)
 have nP:sP.a=s.a+2:=by rw[wz];exact nX
 have gP:Y7 s.u sP s.a:=by rw[wz];exact gX.M (Nat.le_succ _) hE
 clear wz;have hbP:=gP.I hE;have h0:=(p0 b0 (by omega)).trans ((q1 b0 l0).trans g0);have h1:=(p0 b1 (by omega)).trans ((q1 b1 l1).trans g1);have h2:=(p0 s.a (by omega)).trans x1;have oA:∀c,c<sP.a->(sP.u.A (.J [.int .i64 0] 31 false)).heap.u c=sP.heap.u c:=fun c hc=>Au hc;have nA:(sP.u.A (.J [.int .i64 0] 31 false)).a=sP.a+1:=rfl;have bA:(sP.u.A (.J [.int .i64 0] 31 false)).b=sP.a:=rfl;refine Es<|Lv 1 U<|Bk U U U U U U U (RE (p:=s.a+1) (Q:=fun o c=>match o with
  |none=>(Z6 p t).2=0/\c=some (.J [.J (Z6 p t).1] 9 false)
  |some e=>(Z6 p t).2=e/\e≠0) U hbP (by omega) (OC hp ht ((oA b0 (by omega)).trans h0) ((oA b1 (by omega)).trans h1) ((oA s.a (by omega)).trans h2) ((oA (s.a+1) (by omega)).trans p1) (by omega) (by omega) (by omega) (by omega) (by omega) (fun hq s' g c=>⟨rfl,g,hq,c⟩) fun hq s' g=>⟨_,rfl,g,rfl,hq⟩) fun o s' g q=>?_)
 have gg:Y7 s.u s' s.a:=gP.G g (Nat.le_succ _);cases o with
 |none=>
  obtain⟨q1,q2⟩:=q;have e:q8 (Z6 p t)= .O [.J (Z6 p t).1,.int .i64 0]:=by unfold q8;rw[q1]
  rw[e]at hR;refine Lw U<|Sq<|Ew U<|Tf U<|Sk<|Es<|Lo (kl U q2 U) U<|Lw U ?_;exact Se (AC ⟨.inl U,_,rfl,_,Aa U (Aa U U),AQ U (fun _ _=>rfl) (fun _=>rfl) (fun _=>hR s Y7.A) fun _=>hR _ (gg.u hb)⟩)
 |some e=>
  obtain⟨q1,q2⟩:=q;have e1:q8 (Z6 p t)= .O [.J [],.int .i64 e]:=by unfold q8;rw[Xc (by rw[q1];exact q2),q1]
  rw[e1]at hR;focus
   refine Lw U<|Sq<|Ew U<|Ce U (fun h2=>?_) (fun h2=>?_);refine Ew U ?_;rotate_left;refine Sk<|Es ?_;rotate_left
  .exact Se (AC ⟨.inl U,_,rfl,_,Aa U (Aa U U),AQ U (fun _ _=>rfl) (fun _=>rfl) (fun _=>hR s Y7.A) fun _=>hR _ (gg.u hb)⟩)
  .exact absurd h2 q2
theorem goal_to (p:ZM) (t:Cc) (hp:dD p) (ht:Ct t<=1000):Cj (EK LF) 16 [.agg (Zf p),.agg (Cf t)] S0 (q8 (Z6 p t)):=by
 have ee:=Ak t;have ep:Zf p=[Cp Cq 2 p.a,Cp Cq 2 p.c,Cp Yx 6 p.b]:=rfl;rw[ee,ep];refine As U<|Eh U<|Es<|Lv 1 U<|D4 fun sX bm=>?_;have h0:sX.heap.u 0=some (.J (Zf p) 43 false):=by rw[bm,ep];exact(AD 0).trans rfl
 have h1:sX.heap.u 1=some (.J (Cf t) 47 false):=by rw[bm,ee];exact(AD 1).trans rfl
 have nX:sX.a=2:=by rw[bm];rfl
 have bX:sX.b=0:=by rw[bm];rfl
 have lX:sX.c=[]:=by rw[bm];rfl
 clear bm;refine Bk U U U U U U U (QZ hp ht h0 h1 (by omega) (by omega) (by omega) fun s' g=>?_);have l':s'.c=[]:=List.eq_nil_iff_forall_not_mem.2 fun c hc=>by
  rcases g.a.d c hc with h|h
  .rw[lX]at h;cases h
  .omega
 have b':s'.b=0:=g.a.b.trans bX;obtain⟨w,e⟩:=Z6 p t;unfold q8;dsimp only;refine Lw U<|Se ⟨.inl U,U,l',b',_,_,_,(Aa U (Aa U U)),U,U,U⟩
noncomputable def LG:=CX LF 16 qp (fun p=>q8 (Z6 p.1.1 p.1.2))
theorem hq_16 {p:ZM} {t:Cc} (h:dD p) (ht:Ct t<=1000):LG 16 [.agg (Zf p),.agg (Cf t)]=some (q8 (Z6 p t)):=Aj (enc:=qp) (fun a b h=>by rw[PK a b h]) ⟨(p,t),h,ht⟩
theorem pallG (h:CM Tryz.prog 8 [] (.bool true)):Co Tryz.prog gn LG:=
 Al Aw Ag (pallF h) (fun p:GoT=>goal_to p.1.1 p.1.2 p.2.1 p.2.2) (fun p=>by
  show(Cm 40 (.agg (Zf p.1.1))&&(AV.agg (Cf p.1.2)::[]).all (Cm 40))=true;rw[List.all_cons,AU];rfl) (fun _=>rfl)
mutual
theorem Ju:∀(t:Cc) (l d:Int),0<=YF t l d->YF t l d=l-Ct t
 | .mk o n ks,l,d,h=>by
  rw[YF]at h|-;by_cases hc:l<1\/d<1
  .rw[if_pos hc]at h;omega
  .rw[if_neg hc]at h|-;rw[ID ks _ _ h,Ct];omega
theorem ID:∀(ts:List Cc) (l d:Int),0<=Z3 ts l d->Z3 ts l d=l-C5 ts
 | [],l,d,h=>by rw[Z3,C5];omega
 |t::ts,l,d,h=>by
  rw[Z3]at h|-;by_cases hc:0<=l
  .rw[if_pos hc]at h|-;have h1:=ID ts _ _ h;have h2:0<=YF t l d:=by omega
   rw[h1,Ju t l d h2,C5];omega
  .rw[if_neg hc]at h;omega
end
theorem DG {t:Cc} (h:aC t=true):Ct t<=50:=by
 have h:=dT h;have:=Ju t _ _ h;omega
theorem GP:∀ {l:List Cc},l.all aC=true->C5 l<=50*l.length
 | [],_=>Qj _
 |t::ts,h=>by
  rw[List.all_cons,Qf]at h;have h1:=DG h.1;have h2:=GP h.2;rw[C5,List.length_cons];omega
theorem V9 {p:ZM} (h:aU p=true):dD p:=by
 unfold aU at h;obtain⟨h1,h2⟩:=Bool.and_eq_true_iff.1 h;obtain⟨h3,h4⟩:=Bool.and_eq_true_iff.1 h2;have h3:=dT h3;unfold bc at h1;obtain⟨h5,h6⟩:=Bool.and_eq_true_iff.1 h1;obtain⟨h7,h8⟩:=Bool.and_eq_true_iff.1 h6;rw[Bool.not_eq_true',Bool.or_eq_false_iff]at h5;have l1:=dF h5.1;have l2:=dF h5.2;unfold cO at h7 h8;rw[List.take_length]at h7 h8;refine⟨⟨fun q hq=>dT (List.all_eq_true.1 h7 q hq),fun q hq=>dT (List.all_eq_true.1 h8 q hq),by omega,by omega⟩,by omega,fun r hr=>?_⟩;obtain⟨h9,xj⟩:=Bool.and_eq_true_iff.1 (List.all_eq_true.1 h4 r hr);obtain⟨h11,h12⟩:=Bool.and_eq_true_iff.1 h9;have h11:=dT h11;have h13:=GP h12;have h14:=DG xj;exact⟨by omega,by omega⟩
set_option maxRecDepth 10000 in
theorem law_to (p:ZM) (t:Cc):Cj (EK LG) 4 [.agg (Zf p),.agg (Cf t)] S0 (.bool true):=by
 have ee:=Ak t;have ep:Zf p=[Cp Cq 2 p.a,Cp Cq 2 p.c,Cp Yx 6 p.b]:=rfl;have hit_8:LG 8 []=some (.bool true):=rfl;have vm:LG 14 [.agg (Zf p)]=some (.bool (aU p)):=hq_14;have jR:LG 15 [.agg (Cf t)]=some (.bool (aC t)):=hq_15;have H3:aU p=true->aC t=true->LG 16 [.agg (Zf p),.agg (Cf t)]=some (.O [.J (Z6 p t).1,.int .i64 (Z6 p t).2]):=fun h1 h2=>hq_16 (V9 h1) (Nat.le_trans (DG h2) (by decide));have H4:aU p=true->aC t=true->LG 17 [.agg (Zf p),.agg (Cf t)]=some (.O [.J (Z6 p t).1,.int .i64 (Z6 p t).2]):=fun h1 h2=>(hq_17 (V9 h1) (Nat.le_trans (DG h2) (by decide))).trans (congrArg some (goalV_eq p t));generalize Z6 p t=w at*;obtain⟨pw,pe⟩:=w;dsimp only at H3 H4;rw[ee,ep]at*;generalize aU p=B1 at*;generalize aC t=B2 at*;refine As U ?_
 have hpw:CK pw pw=true:=by rw[AY];exact decide_eq_true rfl
 cases B1 with
 |false=>
  refine Es<|Lx U<|Sq<|Es<|Ls 1 U<|Lo (kc U (vm)) U<|Lw U<|Tt U<|Es<|Lo (kc U (hit_8)) U<|Lw U<|Se (Er U ?_);exact Ab U
 |true=>
  cases B2 with
  |false=>
   refine Es<|Lx U<|Sq<|Es<|Ls 1 U<|Lo (kc U (vm)) U<|Ls 3 U<|Lg U U (kc U (jR))<|Lw U<|Tt U<|Es<|Lo (kc U (hit_8)) U<|Lw U<|Se (Er U ?_);exact Ab U
  |true=>
   have hit_16:=H3 rfl rfl;have hit_17:=H4 rfl rfl;focus
    refine Eh U<|Sq<|Es<|Ls 1 U<|Lo (kc U (vm)) U<|Ls 3 U<|Lg U U (kc U (jR))<|Lw U<|Tf U<|Sk<|Es<|Ls 2 U<|Lo (kc U (hit_16)) U<|Lw U<|Es<|Ls 2 U<|Lo (kc U (hit_17)) U<|Lw U<|Es<|Lv 4 U<|Bd U (fun h1=>?_) (fun h1=>?_);refine Lv 2 U<|Lh U U (Bx U Zr U U U U)<|Lv 2 U<|Lg U hpw (kc U (hit_8))<|Lq (oT U hpw U) U<|qa U<|Ld<|Se (Er U ?_);exact Ab U;omega
theorem data_str {P:Program} {t:TypeId} {l:List AV} (h:Am.tU P t l) (hu:P.underlying t=some .string):∃w,l=[.J w]:=by
 cases h with
 |J h=>exact⟨_,rfl⟩
 |bool h|int h|O h|Z h=>rw[hu]at h;cases h
section
variable {P : Program}
theorem HN {t:TypeId} {k:IntKind} {l:List AV} (h:Am.tU P t l) (hu:P.underlying t=some (.int k)):∃n,l=[.int k n]:=by
 cases h with
 |int h=>rw[hu]at h;cases h;exact⟨_,rfl⟩
 |bool h|J h|O h|Z h=>rw[hu]at h;cases h
theorem data_sl {t e:TypeId} {l:List AV} (h:Am.tU P t l) (hu:P.underlying t=some (.slice e)):∃ls:List (List AV),l=[.Ck ls.flatten ls.length (P.cellsOf e) true]/\∀x∈ls,Am.tU P e x:=by
 cases h with
 |O h hn hl hd=>rw[hu]at h;cases h;exact⟨_,rfl,hd⟩
 |bool h|int h|J h|Z h=>rw[hu]at h;cases h
theorem NH {t:TypeId} {fs:Array Field} {l:List AV} (h:Am.tU P t l) (hu:P.underlying t=some (.struct fs)):∃ls:List (List AV),l=ls.flatten/\ls.length=fs.toList.length/\∀(i:Nat) f x,fs.toList[i]?=some f->ls[i]?=some x->Am.tU P f.type x:=by
 cases h with
 |Z h hl hd=>rw[hu]at h;cases h;exact⟨_,rfl,hl,hd⟩
 |bool h|int h|J h|O h=>rw[hu]at h;cases h
theorem Nt {α:Type} {enc:α->List AV}:∀ {ls:List (List AV)},(∀l∈ls,∃a,l=enc a)->∃xs:List α,ls=xs.map enc
 | [],_=>⟨[],rfl⟩
 |l::ls,h=>by
  obtain⟨a,rfl⟩:=h l (Qh ..);obtain⟨xs,rfl⟩:=Nt (ls:=ls) fun x hx=>h x (Qg _ hx);exact⟨a::xs,U⟩
theorem PQ {α:Type} {enc:α->List AV} {t e:TypeId} {k:Nat} {l:List AV} (h:Am.tU P t l) (hu:P.underlying t=some (.slice e)) (hk:P.cellsOf e=k) (hd:∀x,Am.tU P e x->∃a,x=enc a):∃xs:List α,l=[Cp enc k xs]:=by
 obtain⟨ls,rfl,hm⟩:=data_sl h hu;obtain⟨xs,rfl⟩:=Nt fun x hx=>hd x (hm x hx);refine⟨xs,?_⟩;unfold Cp;rw[hk,Qn,List.flatMap_def]
end
noncomputable def z_ (t:TypeId):Array Field:=match Tryz.prog.underlying t with
 |some (.struct fs)=>fs
 |_=> #[]
noncomputable def ftype (t:TypeId) (i:Nat):Option TypeId:=((z_ t).toList[i]?).map Field.type
theorem Bj {t:TypeId} {ls:List (List AV)} (hd:∀(i:Nat) f x,(z_ t).toList[i]?=some f->ls[i]?=some x->Am.tU Tryz.prog f.type x) {i:Nat} {u:TypeId} {x:List AV} (h:ftype t i=some u) (hx:ls[i]?=some x):Am.tU Tryz.prog u x:=by
 unfold ftype at h;obtain⟨f,hf,rfl⟩:=Option.map_eq_some_iff.1 h;exact hd i f x hf hx
theorem Vm:Tryz.prog.underlying 47=some (.struct (z_ 47)):=by kernel_rfl
theorem QF:Tryz.prog.underlying 45=some (.slice 47):=by kernel_rfl
theorem XG {t:TypeId} {x:List AV} (h:Am.tU Tryz.prog t x):(t=47->∃u,x=Cf u)/\(t=45->∃us,x=[Cs us]):=by
 induction h with
 |bool h|int h|J h=>
  refine⟨fun e=>?_,fun e=>?_⟩
  .subst e;rw[Vm]at h;cases h
  .subst e;rw[QF]at h;cases h
 |O h hn hl hd ih=>
  refine⟨fun e=>(by subst e;rw[Vm]at h;cases h),fun e=>?_⟩;subst e;rw[QF]at h;cases h;obtain⟨xs,rfl⟩:=Nt (enc:=Cf) fun l hl=>(ih l hl).1 rfl;refine⟨xs,?_⟩;unfold Cs Cp;rw[show Tryz.prog.cellsOf 47=3 by kernel_rfl,Qn,List.flatMap_def]
 |Z h hl hd ih=>
  refine⟨fun e=>?_,fun e=>(by subst e;rw[QF]at h;cases h)⟩;subst e;rw[Vm]at h;obtain rfl:=TypeDesc.struct.inj (Option.some.inj h);rw[show(z_ 47).toList.length=3 by kernel_rfl]at hl;rename_i ls
  obtain⟨a,b,c,rfl⟩:∃a b c,ls=[a,b,c]:=by
   match ls,hl with
   | [a,b,c],_=>exact⟨a,b,c,rfl⟩
  obtain⟨o,rfl⟩:=HN (k:= .i64) (Bj hd (i:=0) (u:=44) (by kernel_rfl) rfl) (by kernel_rfl);obtain⟨n,rfl⟩:=HN (k:= .i64) (Bj hd (i:=1) (u:=3) (by kernel_rfl) rfl) (by kernel_rfl);obtain⟨f,hf,ht⟩:=Option.map_eq_some_iff.1 (show ftype 47 2=some 45 by kernel_rfl);obtain⟨ks,rfl⟩:=(ih 2 f c hf rfl).2 ht;exact⟨.mk o n ks,(AG o n ks).symm⟩
theorem data_T {x:List AV} (h:Am.tU Tryz.prog 47 x):∃t,x=Cf t:=(XG h).1 rfl
theorem data_Ts {x:List AV} (h:Am.tU Tryz.prog 45 x):∃ts,x=[Cs ts]:=(XG h).2 rfl
theorem data_N {x:List AV} (h:Am.tU Tryz.prog 137 x):∃p,x=Cq p:=by
 obtain⟨ls,rfl,hl,hd⟩:=NH (fs:=z_ 137) h (by kernel_rfl);have hl:ls.length=2:=hl.trans (by kernel_rfl)
 match ls,hl,hd with
 | [a,b],_,hd=>
  obtain⟨w,rfl⟩:=data_str (Bj hd (i:=0) (u:=9) (by kernel_rfl) rfl) (by kernel_rfl);obtain⟨n,rfl⟩:=HN (k:= .i64) (Bj hd (i:=1) (u:=3) (by kernel_rfl) rfl) (by kernel_rfl);exact⟨(w,n),U⟩
theorem XH {x:List AV} (h:Am.tU Tryz.prog 38 x):∃l,x=[Cp Cq 2 l]:=PQ h (e:=137) (by kernel_rfl) (by kernel_rfl) fun _=>data_N
theorem data_R {x:List AV} (h:Am.tU Tryz.prog 115 x):∃r,x=Yx r:=by
 obtain⟨ls,rfl,hl,hd⟩:=NH (fs:=z_ 115) h (by kernel_rfl);have hl:ls.length=4:=hl.trans (by kernel_rfl)
 match ls,hl,hd with
 | [a,b,c,d],_,hd=>
  obtain⟨f,rfl⟩:=HN (k:= .i64) (Bj hd (i:=0) (u:=3) (by kernel_rfl) rfl) (by kernel_rfl);obtain⟨ps,rfl⟩:=data_Ts (Bj hd (i:=1) (u:=45) (by kernel_rfl) rfl);obtain⟨t,rfl⟩:=data_T (Bj hd (i:=2) (u:=47) (by kernel_rfl) rfl);obtain⟨v,rfl⟩:=HN (k:= .i64) (Bj hd (i:=3) (u:=3) (by kernel_rfl) rfl) (by kernel_rfl);refine⟨⟨f,ps,t,v⟩,?_⟩;rw[Ak];rfl
theorem data_P {x:List AV} (h:Am.tU Tryz.prog 43 x):∃p,x=Zf p:=by
 obtain⟨ls,rfl,hl,hd⟩:=NH (fs:=z_ 43) h (by kernel_rfl);have hl:ls.length=2:=hl.trans (by kernel_rfl)
 match ls,hl,hd with
 | [a,b],_,hd=>
  obtain⟨ls2,rfl,mf,po⟩:=NH (fs:=z_ 40) (Bj hd (i:=0) (u:=40) (by kernel_rfl) rfl) (by kernel_rfl);have mf:ls2.length=2:=mf.trans (by kernel_rfl)
  match ls2,mf,po with
  | [c,d],_,po=>
   obtain⟨cs,rfl⟩:=XH (Bj po (i:=0) (u:=38) (by kernel_rfl) rfl);obtain⟨fs,rfl⟩:=XH (Bj po (i:=1) (u:=38) (by kernel_rfl) rfl);obtain⟨rs,rfl⟩:=PQ (enc:=Yx) (Bj hd (i:=1) (u:=41) (by kernel_rfl) rfl) (e:=115) (k:=6) (by kernel_rfl) (by kernel_rfl) fun x h=>data_R h;exact⟨⟨cs,fs,rs⟩,U⟩
def jT:List Int:=[1,10,100,1000,10000,100000,1000000,10000000,100000000,1000000000,10000000000,100000000000,1000000000000,10000000000000,100000000000000,1000000000000000,10000000000000000,100000000000000000,1000000000000000000,10000000000000000000]
theorem Hj (C:Cx) (k:IntKind):∀zs:List Int,Y0 C (zs.map (AV.int k)) (zs.map (Value.int k))
 | []=> .O
 |z::zs=> .J (.int k z) (Hj C k zs)
theorem globS_of {w:World} (h:Lib.TabIs Tryz.prog w "internal/strconv.uint64pow10" .u64 jT):GlobS gl0 (Cx.u w):=by
 intro g cs hg;unfold gl0 at hg;cases hb:Nat.beq g 1 with
 |false=>rw[hb]at hg;cases hg
 |true=>
  rw[hb]at hg;obtain rfl:=Qb hb;obtain rfl:ry=cs:=Option.some.inj hg;unfold Lib.TabIs World.var? at h;rw[show Tryz.prog.globalNamed "internal/strconv.uint64pow10" =some 1 by kernel_rfl]at h;refine⟨jT.map (Value.int .u64),?_,Hj _ .u64 jT,fun v hv=>?_⟩
  .show(match w.heap[1]? with
    |some (.cells c _ _)=>some c.toList
    |_=>none)=_
   cases hw:w.heap[1]? with
   |none=>rw[Qe,hw]at h;cases h
   |some o=>
    rw[Qe,hw]at h;cases o with
    |cells c t f=>
     have h:some c=some _:=h;rw[Option.some.inj h]
    |_=>cases h
  .rw[show ry=jT.map (AV.int .u64)from rfl]at hv;obtain⟨z,_,rfl⟩:=List.mem_map.1 hv;rfl
theorem tb (h:CM Tryz.prog 8 [] (.bool true)) (w:World) (p:ZM) (t:Cc) {x y:Value} (hg:Lib.TabIs Tryz.prog w "internal/strconv.uint64pow10" .u64 jT) (hx:VR (Cx.u w) (.agg (Zf p)) x) (hy:VR (Cx.u w) (.agg (Cf t)) y):
 Calls Tryz.prog 4 #[x,y] w fun e w'=>e= .returned (.bool true)/\Go.RowKit.Below w.heap.size w w':=
 XP Aw (pallG h) (args:=[.agg (Zf p),.agg (Cf t)]) (by rfl) (law_to p t) (globS_of hg) (.J hx (.J hy .O))
theorem Vv {P:Program} {W:World} {x y:String×DataW Unit} {name:String} {k:IntKind} {zs:List Int} {rest:List (String×DataW Unit)} {g:Nat} {t e:TypeId} {n:Nat}
 (hg:P.globalNamed name=some g) (hty:(P.globals[g]?).map (·.type)=some t) (ht:P.underlying t=some (.array n e)) (he:P.underlying e=some (.int k)) (hce:P.cellsOf e=1) (hct:P.cellsOf t=n)
 (h:laidMet P (x::y::(name,Lib.tabData k zs)::rest) W):Lib.TabIs P W name k zs:=by
 obtain⟨ps,⟨_,_,_,_,_,_,_,_,_,_,⟨_,_,_,_,_,_,_,_,_,_,⟨g',t',cs,fuel,p,q,jd,ht',hvar,hd,_,_⟩,_⟩,_⟩,_⟩:=h;obtain rfl:=Option.some.inj (hg.symm.trans jd);obtain rfl:=Option.some.inj (hty.symm.trans ht');unfold Lib.TabIs;rw[hvar,<-Lib.cells_of_tab ht he hce hct hd]
theorem table_of {w:World} {x y:String×DataW Unit} {rest:List (String×DataW Unit)} (h:laidMet Tryz.prog (x::y::("internal/strconv.uint64pow10",Lib.tabData .u64 jT)::rest) w):Lib.TabIs Tryz.prog w "internal/strconv.uint64pow10" .u64 jT:=
 Vv (g:=1) (t:=345) (e:=325) (n:=20) (by kernel_rfl) (by kernel_rfl) (by kernel_rfl) (by kernel_rfl) (by kernel_rfl) (by kernel_rfl) h
end Go.Proofs.YtfhimfcbphepeaaGreatDoor.Ty
