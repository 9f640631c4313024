/- Printing, part 6. -/
import Derived.Test.YtfhimfcbphepeaaGreatDoorCdA
import Derived.Test.YtfhimfcbphepeaaGreatDoorCdE
set_option linter.unusedSectionVars false
set_option linter.unusedVariables false
set_option linter.unusedSimpArgs false
open Go Am
namespace Go.Proofs.YtfhimfcbphepeaaGreatDoor.Ty
mutual
theorem H1:∀(t:Cc) (d:Nat),(C7 t d).map (·.1)=C9 t
 | .mk o n ks,d=>by rw[C7,List.map_cons,C9,Xe ks (d+1)]
theorem Xe:∀(ts:List Cc) (d:Nat),(C7.go ts d).map (·.1)=CP ts
 | [],_=>rfl
 |t::ts,d=>by rw[C7.go,List.map_append,CP,H1 t d,Xe ts d]
end
theorem WD {cs fs:List Ci} {o n:Int} {ks:List Cc} (h:YJ cs fs o n (ks.length:Nat)=true) (ho:o=1):ks=[]:=by
 subst ho;unfold YJ at h;rw[if_pos rfl,Qf]at h;exact List.length_eq_zero_iff.1 (by have:=dT h.1;omega)
mutual
theorem Jk {cs fs:List Ci}:∀t:Cc,ZD cs fs t=true->mY t=true
 | .mk o n ks,h=>by
  rw[ZD,Qf]at h;rw[mY,PY ks h.2,Bool.and_true];by_cases ho:o=1
  .rw[WD h.1 ho];simp
  .rw[decide_eq_false ho];rfl
theorem PY {cs fs:List Ci}:∀ts:List Cc,cp cs fs ts=true->iX ts=true
 | [],_=>rfl
 |t::ts,h=>by
  rw[cp,Qf]at h;rw[iX,Jk t h.1,PY ts h.2];rfl
end
structure Rd (base b:Nat) (st S:St):Prop where
 next:st.a<=S.a
 bound:S.b=st.b
 mem:b∈S.c
 log:∀d∈S.c,d∈st.c\/d<st.b
 ec:∀d,base<=d->d<st.a->S.heap.u d=st.heap.u d
theorem Rd.put {base b x:Nat} {st S:St} {o:Option Cv} (h:Rd base b st S) (hx:x<base):Rd base b st (S.B x o):=
 ⟨h.next,h.bound,Dz h.mem,fun d hd=>by
  rcases Ds hd with h1|⟨_,h1⟩
  .exact h.log d h1
  .exact .inr (by rw[<-h.bound];exact h1),fun d h1 h2=>(AF.trans (if_neg (by omega))).trans (h.ec d h1 h2)⟩
theorem Rd.begin {base b:Nat} {st s2:St} {z cs:List AV} {T:TypeId} {lp:Option Cv} (cc:Copied st (st.A (.J z T false)) s2 z cs T) (hb:b<base) (h1:base<=st.b) (h2:st.b<=st.a):Rd base b st (s2.B b lp):=
 ⟨by show st.a<=s2.a;rw[cc.f];exact Nat.le_succ _,cc.a,Dn (Nat.lt_of_lt_of_eq (show b<st.b by omega) cc.a.symm),fun d hd=>by
  rcases Ds hd with h|⟨_,h⟩
  .exact .inl (by rw[<-cc.g h2];exact h)
  .exact .inr (by rw[<-cc.a];exact h),fun d h3 h4=>(AF.trans (if_neg (by omega))).trans (cc.e d h4)⟩
structure IpM (L:List Cc) (lp:dc) (m:List Int) (j n:Nat) (h:Tr Cv):Prop where
 b:h.u 2=some (.J [.bool false] 4 false)
 c:h.u 3=some (.J [.int .i64 0] 31 false)
 g5:h.u 5=some (.O (Z5 m) m.length)
 g6:h.u 6=some (.J [.H_ 5] 233 false)
 d:h.u 8=some (.G' true)
 a:h.u 9=some (.Z lp)
 e:Z4 L []=Z4 (L.drop j) m
 lt:10<=n
def IpC (L:List Cc) (lp:dc) (j n:Nat) (h:Tr Cv):Prop:=∃m,IpM L lp m j n h
structure IpD (L:List Cc) (n:Nat) (h:Tr Cv):Prop where
 g2:h.u 2=some (.J [.bool false] 4 false)
 g3:h.u 3=some (.J [.int .i64 0] 31 false)
 df:h.u 8=some (.G' true)
 lp:∃lp,h.u 9=some (.Z lp)/\lp.a= .done/\lp.b=some .ret
 no:Z4 L []=false
 lt:10<=n
theorem IpC.mono {L:List Cc} {lp:dc} {j n n':Nat} {h h':Tr Cv} (H:IpC L lp j n h) (hn:n<=n') (hh:∀d,d<n->h'.u d=h.u d):IpC L lp j n' h':=by
 obtain⟨m,H⟩:=H;have:=H.lt;exact⟨m,(hh 2 (by omega)).trans H.b,(hh 3 (by omega)).trans H.c,(hh 5 (by omega)).trans H.g5,(hh 6 (by omega)).trans H.g6,(hh 8 (by omega)).trans H.d,(hh 9 (by omega)).trans H.a,H.e,Nat.le_trans this hn⟩
theorem IpD.mono {L:List Cc} {n n':Nat} {h h':Tr Cv} (H:IpD L n h) (hn:n<=n') (hh:∀d,d<n->h'.u d=h.u d):IpD L n' h':=by
 have:=H.lt;obtain⟨lp,l1,l2⟩:=H.lp;exact⟨(hh 2 (by omega)).trans H.g2,(hh 3 (by omega)).trans H.g3,(hh 8 (by omega)).trans H.df,⟨lp,(hh 9 (by omega)).trans l1,l2⟩,H.no,Nat.le_trans this hn⟩
theorem Uv (f:FuncId) (args:List AV) (h:uf f=true):lY f args=none:=by
 unfold uf at h;simp only[Bool.or_eq_true]at h;rcases h with((h|h)|h)|h<;>(obtain rfl:=Qb h;rfl)
theorem Wa {sB:St} {nt:Nat} {T:Tr AV} {ps:List Nat} {a b:Code} {t:Cc} {R:AV->St->Prop} (hs:YN t) (hdp:CL t<=4000)
 (g2:sB.heap.u 2=some (.J [.bool false] 4 false)) (g3:sB.heap.u 3=some (.J [.int .i64 0] 31 false)) (g5:sB.heap.u 5=some (.O [] 0)) (g6:sB.heap.u 6=some (.J [.H_ 5] 233 false))
 (g7:sB.heap.u 7=some (.J (Cf t) 47 false)) (nB:sB.a=8)
 (hy:∀j (hj:j<(C7 t 1).length) (st:St),10<=st.b->st.b<=st.a->IpC (C9 t) (xk nt T ps a b) j st.a st.heap->kD (EK lY) 9 [.agg (Cf (C7 t 1)[j].1),.int .i64 ((C7 t 1)[j].2:Nat)] st fun v s'=>st.a<=s'.a/\s'.b=st.b/\9∈s'.c/\(∀d∈s'.c,d∈st.c\/d<st.b)/\
  (∀d,10<=d->d<st.a->s'.heap.u d=st.heap.u d)/\(v=true->IpC (C9 t) (xk nt T ps a b) (j+1) s'.a s'.heap)/\(v=false->IpD (C9 t) s'.a s'.heap))
 (k:∀w s3,AllN (aR sB nt T ps a b) (C7 t 1) (IpC (C9 t) (xk nt T ps a b)) (IpD (C9 t)) w s3->R w s3):
 CD (EK lY) 265 [.G' (.yield (sB.a+1)) [] [],.Z 7 0] (aR sB nt T ps a b) R:=by
 have hn:(aR sB nt T ps a b).a=10:=by show sB.a+2=10;rw[nB]
 rw[nB];refine CD.mono (OS (t:=t) (C:=IpC (C9 t) (xk nt T ps a b)) (D:=IpD (C9 t)) ⟨fun h hn hh=>h.mono hn hh,fun h hn hh=>h.mono hn hh,?_,?_,?_,Uv⟩ hs ?_ ?_ ?_) k
 .intro j hj st h1 h2 hC;rw[hn]at h1|-;exact hy j hj st h1 h2 hC
 .intro j n h hj _;exact(Im t 1 4000).2 (by omega) _ (Ql hj)
 .omega
 .refine⟨[],(AZ (by omega)).trans g2,(AZ (by omega)).trans g3,(AZ (by omega)).trans g5,(AZ (by omega)).trans g6,?_,?_,U,by omega⟩
  .rw[show 8=sB.a from nB.symm];exact MX
  .rw[show 9=sB.a+1 by omega];exact MW
 .omega
 .exact(AZ (by omega)).trans g7
def patV (b:Bool):AV:= .O [.bool b,.int .i64 0]
theorem Wb {fr:Fr} {l:Sl} {st:St} {r v:Bool} (hd:fr.defers=[{a:= .J 8,args:=[]}]) (h4:Am.e_ 4 l=some (.Z 2 0)) (h5:Am.e_ 5 l=some (.Z 3 0)) (g2:st.heap.u 2=some (.J [.bool r] 4 false)) (g3:st.heap.u 3=some (.J [.int .i64 0] 31 false)) (g8:st.heap.u 8=some (.G' true)) (hb:st.b=0) (hl:st.c=[]) (hv:r=v) {ex:Ex} (hex:ex= .Z\/ex= .J):
 (ex= .Z\/ex= .J)/\∃Zy,bS fr.defers st=some Zy/\Zy.c=[]/\Zy.b=0/\∃vs w ks,CO (EK lY) Zy l (Tryz.f183).results.toList=some vs/\CW Zy 0 40 (eT vs) []=some (w,ks)/\Cw 0 40 w=true/\w=patV v:=by
 subst hv;obtain⟨s',e1,e2,e3,e4,e5⟩:=Ff (rs:=[8]) (s:=st) (List.nodup_cons.2 ⟨(fun h=>by cases h),List.nodup_nil⟩) (fun q hq=>by rw[Qp.1 hq];exact g8);refine⟨hex,s',by rw[hd];exact e1,(e4 hb).trans hl,e3.trans hb,[.bool r,.int .i64 0],patV r,[],?_,U,U,U⟩;exact DO h4 ag_4 sz_4 ((e5 2 (fun h=>by have:=Qp.1 h;omega)).trans g2) U (DO h5 wa Vx ((e5 3 (fun h=>by have:=Qp.1 h;omega)).trans g3) U U)
theorem ispat_to (cs fs:List Ci) (t:Cc) (hc:cs.length<=4000) (hf:fs.length<=4000) (hn:Ct t<=1000) (gM:∀p∈cs,p.1.length<=4000) (kP:∀p∈fs,p.1.length<=4000) (kG:al cs fs=true) (ht:CQ cs fs t=true) (hdp:CL t<=4000):
 Cj (EK lY) 183 [CH cs fs,.agg (Cf t)] S0 (patV (fM t)):=by
 have hs:YN t:=Dl t (by omega);have dz:lY 115 [.agg [Cp Cq 2 cs,Cp Cq 2 fs]]=some (.int .i64 0):=by
  have:=Pq gM kP;rw[kG]at this;exact this
 have aT:lY 189 [CH cs fs,.agg (Cf t)]=some (.bool true):=by
  have:=SZ hc hf hs;rw[ht]at this;exact this
 have e0:=Ak t;rw[<-JK (Jk t (Hn ht))];rw[e0]at aT|-;unfold CH at aT|-;refine IB (fn:=Tryz.f183) U U U U U U U<|Eh U<|Sq<|Es<|Ls 2 U<|Lo (AL 5 U u_45 Ic z_47 U U U U) U<|AR (fn:=Tryz.f119) U U U U U U U U U U U U U<|Eh U<|Es<|Ls 1 U<|Lo (kc U (dz)) U<|Lv 4 U<|Ge U U U U U<|AR (fn:=Tryz.f187) U U U U U U U U U U U U U<|Ew U<|Sq<|Ew U<|Sb<|A3<|Ew U<|Sq<|Tt U<|Sk<|Sq<|Sb<|Es<|Lq (kM (k:=0) U (by omega)) U<|Lx U<|Es<|Ls 2 U<|F5 (fn:=Tryz.f188) U U U U U U U U U U U U U U U<|Eh U<|Es<|Ls 2 U<|Lo (kc U (aT)) U<|Lw U<|Se (AC (Zx.same U (Aa U U) U U U U ?_));refine Lw U<|Tf U<|Sk<|Sr<|Lq (ka (a:=0) (b:=1) U (by omega)) U<|Lw U<|A3<|Ew U<|Sq<|Tf U<|Sx<|Ax U<|Ew U<|Se (AC (Zx.same U (Aa U U) U U U U ?_));refine Lw U<|Se (AC (Zx.same U (Aa U U) U U U U ?_));refine Lw U<|Tf U<|Sk<|Es<|Lo (Gh 6 U Od U) U<|Lx U<|Sq<|Es<|Ls 1 U<|AR (fn:=Tryz.f234) U U U U U U U U U U U U U<|Eh U<|Ew U<|Se (AC (Zx.new U (Aa U U) U U U U ?_));refine Ld<|Sb<|AJ fun sB bL=>?_;have g2:sB.heap.u 2=some (.J [.bool false] 4 false):=by rw[bL];exact AD 2
 have g3:sB.heap.u 3=some (.J [.int .i64 0] 31 false):=by rw[bL];exact AD 3
 have g5:sB.heap.u 5=some (.O [] 0):=by rw[bL];exact AD 5
 have g6:sB.heap.u 6=some (.J [.H_ 5] 233 false):=by rw[bL];exact AD 6
 have g7:sB.heap.u 7=some (.J (Cf t) 47 false):=by rw[bL,e0];exact AD 7
 have nB:sB.a=8:=by rw[bL];rfl
 have bB:sB.b=0:=by rw[bL];rfl
 have lB:sB.c=[]:=by rw[bL];rfl
 clear bL;refine IA U U U fun T mO=>?_;have hT:k8 [(6,.Z 6 0),(5,.Z 3 0),(4,.Z 2 0)] T:=mO.sub (Ac (by trivial));clear mO;refine Wa hs hdp g2 g3 g5 g6 g7 nB ?_ ?_
 .intro j hj st q1 q2 hC;obtain⟨m,hC⟩:=hC;have C8:=hC.lt;have hjp:j<(C9 t).length:=by rw[<-H1 t 1,Qn];exact hj
  have hxp:(C9 t)[j]=(C7 t 1)[j].1:=by simp only[<-H1 t 1,List.getElem_map]
  have lJ:=hC.e;rw[List.drop_eq_getElem_cons hjp,hxp]at lJ;generalize hx:(C7 t 1)[j]=x at*;obtain⟨⟨o,n,ks⟩,dep⟩:=x;have e1:Cf (.mk o n ks)=[.int .i64 o,.int .i64 n,Cs ks]:=AG ..;dsimp only;rw[e1];refine⟨_,_,_,hC.a,U,(hT.put 16 _).put 17 _,?_⟩;have cc:=FY (st:=st) (z:=[.int .i64 0,.int .i64 0,.Ca]) (cs:=[.int .i64 o,.int .i64 n,Cs ks]) (T:=47);have a1:=cc.b;refine Sr<|Lo (kz U) U<|Ln (kw U a1 U) U<|Ld ?_;refine⟨U,_,(cc.e 9 (by omega)).trans hC.a,U,?_⟩;refine AJ fun sX bm=>?_;have hR:Rd 10 9 st sX:=by rw[bm];exact Rd.begin cc (by decide) q1 q2
  have xo:∀d,d≠9->d<st.a->sX.heap.u d=st.heap.u d:=fun d hd h=>by rw[bm];exact(AF.trans (if_neg hd)).trans (cc.e d h)
  have qt:sX.heap.u st.a=some (.J [.int .i64 o,.int .i64 n,Cs ks] 47 false):=by rw[bm];exact(AF.trans (if_neg (by omega))).trans cc.d
  have xl:=(congrArg (fun s=>s.heap.u 9) bm).trans (AF.trans (if_pos rfl));have w2:=(xo 2 (by decide) (by omega)).trans hC.b;have w3:=(xo 3 (by decide) (by omega)).trans hC.c;have w5:=(xo 5 (by decide) (by omega)).trans hC.g5;have w6:=(xo 6 (by decide) (by omega)).trans hC.g6;have w8:=(xo 8 (by decide) (by omega)).trans hC.d;have nV:=JX (z:=n) w5;have hmp:=H2 (z:=n) w5;have nX:st.a<=sX.a:=hR.next;clear bm xo cc a1;have p3:(sX.B 2 (some (.J [.bool false] 4 false))).heap.u 3=some (.J [.int .i64 0] 31 false):=(AF.trans (if_neg (by decide))).trans w3;have p9:((sX.B 2 (some (.J [.bool false] 4 false))).B 3 (some (.J [.int .i64 0] 31 false))).heap.u 9=sX.heap.u 9:=(AF.trans (if_neg (by decide))).trans (AF.trans (if_neg (by decide)))
  have no:Z4 (C9 t) []=false->∀fW:dc,IpD (C9 t) ((((sX.B 2 (some (.J [.bool false] 4 false))).B 3 (some (.J [.int .i64 0] 31 false))).B 9 (some (.Z {fW with a:= .done,b:=some .ret})))).a ((((sX.B 2 (some (.J [.bool false] 4 false))).B 3 (some (.J [.int .i64 0] 31 false))).B 9 (some (.Z {fW with a:= .done,b:=some .ret})))).heap:=fun hf fW=>
   ⟨(AF.trans (if_neg (by decide))).trans ((AF.trans (if_neg (by decide))).trans (AF.trans (if_pos rfl))),(AF.trans (if_neg (by decide))).trans (AF.trans (if_pos rfl)),(AF.trans (if_neg (by decide))).trans ((AF.trans (if_neg (by decide))).trans ((AF.trans (if_neg (by decide))).trans w8)),⟨_,AF.trans (if_pos rfl),rfl,rfl⟩,hf,by show 10<=sX.a;omega⟩
  have hRn:∀fW:Option Cv,Rd 10 9 st (((sX.B 2 (some (.J [.bool false] 4 false))).B 3 (some (.J [.int .i64 0] 31 false))).B 9 fW):=fun _=>((hR.put (by decide)).put (by decide)).put (by decide);have lJ:Z4 (C9 t) []=if o≠1/\o≠3 then false else if o=1 then(if n∈m then false else Z4 ((C9 t).drop (j+1)) (n::m))else Z4 ((C9 t).drop (j+1)) m:=lJ;have bad1:¬o=1->¬o=3->Z4 (C9 t) []=false:=fun h1 h3=>by rw[lJ,if_pos ⟨h1,h3⟩]
  have bad2:o=1->n∈m->Z4 (C9 t) []=false:=fun h1 h3=>by rw[lJ,if_neg (fun h=>h.1 h1),if_pos h1,if_pos h3]
  have ok1:o=1->¬n∈m->Z4 (C9 t) []=Z4 ((C9 t).drop (j+1)) (ey m n):=fun h1 h3=>by
   rw[lJ,if_neg (fun h=>h.1 h1),if_pos h1,if_neg h3];exact Fl fun x=>by rw[Qk,IY]
  have ok3:¬o=1->o=3->Z4 (C9 t) []=Z4 ((C9 t).drop (j+1)) m:=fun h1 h3=>by rw[lJ,if_neg (fun h=>h.2 h3),if_neg h1]
  focus
   refine Sb<|Sq<|Es<|Lv 1 U<|Lo (kl U qt U) U<|Lv 2 U<|Bb U (fun g8=>?_) (fun g8=>?_);have h8:=nT g8;refine Lv 1 U<|Lg U U (kl U qt U)<|Lv 3 U<|Bb U (fun g9=>?_) (fun g9=>?_);have h9:=nT g9;refine Lw U<|Tt U<|Es ?_;iterate 2 refine Ln (kw U ‹_› U) U ?_
   refine Ld ?_;rotate_left;have h9:=nF g9;refine Lv 1 U<|Lg U U (kl U qt U)<|Lv 2 U<|Bb U (fun g10=>?_) (fun g10=>?_);have xj:=dT g10;omega;have xj:=dF g10;refine Lw U<|Tf U<|Gi<|Es<|Lv 1 U<|Lo (Bs U U (A4 wc wb qt U)) U<|Lw U<|MG U g10<|Sk ?_;rotate_left;have h8:=nF g8;refine Lv 6 U<|Lg U U (kl U qt U)<|Lv 2 U<|Bb U (fun g11=>?_) (fun g11=>?_);have h11:=dT g11;refine Lg U U (kl U w6 U)<|Lv 1 U<|Lg U U (kl U qt U)<|Lg U U (GK U Od z_4 sE U U nV)<|Lw U<|Cb U (fun g12=>?_) (fun g12=>?_);have h12:=dT g12;refine Es<|Ln (kw U w2 U) U<|HU (Ek U Vx U U (DU p3 U U U)) U U<|Ld ?_;rotate_left;have h12:=dF g12;refine Gi<|Es<|Lv 1 U<|Lo (Bs U U (A4 wc wb qt U)) U<|Lw U<|MF U g11<|HY<|Lo (Bs U U (A4 ag_233 sz_233 w6 U)) U<|Lv 1 U<|Lo (Bs U U (A4 GM Eo qt U)) U<|HU (AT (.inl U) Od sE U U U hmp) U U<|Ld ?_;rotate_left;have h11:=dF g11
   omega
  all_goals first
   |(refine AA ?_;refine⟨rfl,_,p9.trans xl,?_⟩;refine⟨(hRn _).next,(hRn _).bound,(hRn _).mem,(hRn _).log,(hRn _).ec,(fun h=>by cases h),fun _=>no ?_ _⟩;first|exact bad1 (by assumption) (by assumption)|exact bad2 (by assumption) (by simpa using(by assumption:decide (n∈m)=true)))
   |(refine⟨rfl,_,xl,?_⟩;have ur:∀fW:Option Cv,Rd 10 9 st (sX.B 9 fW):=fun _=>hR.put (by decide);refine⟨(ur _).next,(ur _).bound,(ur _).mem,(ur _).log,(ur _).ec,fun _=>⟨m,(AF.trans (if_neg (by decide))).trans w2,(AF.trans (if_neg (by decide))).trans w3,(AF.trans (if_neg (by decide))).trans w5,(AF.trans (if_neg (by decide))).trans w6,(AF.trans (if_neg (by decide))).trans w8,AF.trans (if_pos rfl),ok3 xj h9,by show 10<=sX.a;omega⟩,fun h=>by cases h⟩)
   |(refine⟨rfl,_,(AF.trans (if_neg (by decide))).trans xl,?_⟩;have ur:∀fW:Option Cv,Rd 10 9 st ((sX.B 5 (some (.O (Z5 (ey m n)) (ey m n).length))).B 9 fW):=fun _=>(hR.put (by decide)).put (by decide);refine⟨(ur _).next,(ur _).bound,(ur _).mem,(ur _).log,(ur _).ec,fun _=>⟨ey m n,(AF.trans (if_neg (by decide))).trans ((AF.trans (if_neg (by decide))).trans w2),(AF.trans (if_neg (by decide))).trans ((AF.trans (if_neg (by decide))).trans w3),(AF.trans (if_neg (by decide))).trans (AF.trans (if_pos rfl)),(AF.trans (if_neg (by decide))).trans ((AF.trans (if_neg (by decide))).trans w6),(AF.trans (if_neg (by decide))).trans ((AF.trans (if_neg (by decide))).trans w8),AF.trans (if_pos rfl),ok1 h11 (by simpa using(by assumption:decide (n∈m)=false)),by show 10<=sX.a;omega⟩,fun h=>by cases h⟩)
 .rintro w s3 ⟨e1,e2,e3,e4⟩;have bR:s3.b=0:=e1.trans bB;have lR:s3.c=[]:=List.eq_nil_iff_forall_not_mem.2 fun d hd=>by
   rcases e3 d hd with h|h
   .have h:d∈sB.c:=h;rw[lB]at h;cases h
   .have h:d<sB.b:=h;omega
  clear e1 e2 e3;rw[nB];rcases e4 with hC|hD
  .obtain⟨m,hC⟩:=hC;refine⟨_,hC.a,(fun h=>by cases h),?_⟩;show CA (EK lY) _ _ _ _ _;refine AJ fun sZ tp=>?_;have z2:sZ.heap.u 2=some (.J [.bool false] 4 false):=by rw[tp];exact(AF.trans (if_neg (by decide))).trans hC.b
   have z3:sZ.heap.u 3=some (.J [.int .i64 0] 31 false):=by rw[tp];exact(AF.trans (if_neg (by decide))).trans hC.c
   have z8:sZ.heap.u 8=some (.G' true):=by rw[tp];exact(AF.trans (if_neg (by decide))).trans hC.d
   have bZ:sZ.b=0:=by rw[tp];exact bR
   have lZ:sZ.c=[]:=by rw[tp];exact(Bu bR).trans lR
   clear tp;have p3:(sZ.B 2 (some (.J [.bool true] 4 false))).heap.u 3=some (.J [.int .i64 0] 31 false):=(AF.trans (if_neg (by decide))).trans z3;refine Es ?_;iterate 2 refine Ln (kw U ‹_› U) U ?_
   refine Ld<|Se<|Wb U U U ((AF.trans (if_neg (by decide))).trans (AF.trans (if_pos U))) (AF.trans (if_pos U)) ((AF.trans (if_neg (by decide))).trans ((AF.trans (if_neg (by decide))).trans z8)) bZ ((Bu (s:=sZ.B 2 _) bZ).trans ((Bu bZ).trans lZ)) ?_ (.inl U);have:=hC.e;rw[show(C7 t 1).length=(C9 t).length from by rw[<-H1 t 1,Qn],List.drop_length]at this;rw[this];rfl
  .obtain⟨lp,l1,l2,l3⟩:=hD.lp;refine⟨lp,l1,(by rw[l2];exact fun h=>by cases h),?_⟩;rw[l3]
   skip
   exact Wb U U U ((AF.trans (if_neg (by decide))).trans hD.g2) ((AF.trans (if_neg (by decide))).trans hD.g3) ((AF.trans (if_neg (by decide))).trans hD.df) bR ((Bu bR).trans lR) hD.no.symm (.inl U)
def patF:AV:= .O [.bool false,.int .i64 2]
theorem WK (cs fs:List Ci) (t:Cc) (hc:cs.length<=4000) (hf:fs.length<=4000) (hs:YN t) (gM:∀p∈cs,p.1.length<=4000) (kP:∀p∈fs,p.1.length<=4000) (kG:al cs fs=true) (ht:CQ cs fs t=false):Cj (EK lY) 183 [CH cs fs,.agg (Cf t)] S0 patF:=by
 have dz:lY 115 [.agg [Cp Cq 2 cs,Cp Cq 2 fs]]=some (.int .i64 0):=by
  have:=Pq gM kP;rw[kG]at this;exact this
 have aT:lY 189 [CH cs fs,.agg (Cf t)]=some (.bool false):=by
  have:=SZ hc hf hs;rw[ht]at this;exact this
 have e0:=Ak t;rw[e0]at aT|-;unfold CH at aT|-;refine As U<|Eh U<|Sq<|Es<|Ls 2 U<|Lo (AL 5 U u_45 Ic z_47 U U U U) U<|AR (fn:=Tryz.f119) U U U U U U U U U U U U U<|Eh U<|Es<|Ls 1 U<|Lo (kc U (dz)) U<|Lv 4 U<|Ge U U U U U<|AR (fn:=Tryz.f187) U U U U U U U U U U U U U<|Ew U<|Sq<|Ew U<|Sb<|A3<|Ew U<|Sq<|Tt U<|Sk<|Sq<|Sb<|Es<|Lq (kM (k:=0) U (by omega)) U<|Lx U<|Es<|Ls 2 U<|F5 (fn:=Tryz.f188) U U U U U U U U U U U U U U U<|Eh U<|Es<|Ls 2 U<|Lo (kc U (aT)) U<|Lw U<|Se (AC (Zx.same U (Aa U U) U U U U ?_));refine Lw U<|Tt U<|Ew U<|Se (AC (Zx.same U (Aa U U) U U U U ?_));refine Lw U<|Se (AC (Zx.same U (Aa U U) U U U U ?_));refine Lw U<|Tt U<|Eh U<|Se ⟨.inl U,U,U,U,_,_,_,(O4 U ag_4 sz_4 U U (O4 U wa Vx U U U)),U,U,U⟩
def uu (cs fs:List Ci) (t:Cc):AV:=if CQ cs fs t=true then patV (fM t)else patF
abbrev PaN:= {p:(List Ci×List Ci)×Cc//p.1.1.length<=4000/\p.1.2.length<=4000/\Ct p.2<=1000/\(∀q∈p.1.1,q.1.length<=4000)/\(∀q∈p.1.2,q.1.length<=4000)/\al p.1.1 p.1.2=true}
def qw (p:PaN):List AV:=[CH p.1.1.1 p.1.1.2,.agg (Cf p.1.2)]
theorem X7 (x y:PaN) (h:qw x=qw y):x=y:=by
 obtain⟨⟨⟨a,b⟩,t⟩,_⟩:=x;obtain⟨⟨⟨c,d⟩,u⟩,_⟩:=y;simp only[qw,List.cons.injEq,AV.agg.injEq,and_true]at h;obtain⟨rfl,rfl⟩:=Dr h.1;obtain rfl:=AO _ _ h.2;rfl
theorem IM:∀t:Cc,CL t<=Ct t
 | .mk o n ks=>by
  rw[CL,Ct];exact Nat.succ_le_succ (lq ks)
where lq:∀ts:List Cc,Yl ts<=C5 ts
 | []=>Qj _
 |t::ts=>by
  rw[Yl,C5];have h1:=IM t;have h2:=lq ts;omega
noncomputable def KP35:=CX lY 183 qw (fun p=>uu p.1.1.1 p.1.1.2 p.1.2)
theorem hq_183 {cs fs:List Ci} {t:Cc} (hc:cs.length<=4000) (hf:fs.length<=4000) (hn:Ct t<=1000) (gM:∀p∈cs,p.1.length<=4000) (kP:∀p∈fs,p.1.length<=4000) (kG:al cs fs=true):KP35 183 [CH cs fs,.agg (Cf t)]=some (uu cs fs t):=
 Aj (enc:=qw) (fun a b h=>by rw[X7 a b h]) ⟨((cs,fs),t),hc,hf,hn,gM,kP,kG⟩
theorem WJ (p:PaN):Cj (EK lY) 183 (qw p) S0 (uu p.1.1.1 p.1.1.2 p.1.2):=by
 obtain⟨⟨⟨cs,fs⟩,t⟩,hc,hf,hn,gM,kP,kG⟩:=p;unfold qw uu;dsimp only at hc hf hn gM kP kG|-;cases ht:CQ cs fs t with
 |true=>exact ispat_to cs fs t hc hf hn gM kP kG ht (Nat.le_trans (IM t) (Nat.le_trans hn (by decide)))
 |false=>exact WK cs fs t hc hf (Dl t (by omega)) gM kP kG ht
theorem pall35 (h:CM Tryz.prog 8 [] (.bool true)):Co Tryz.prog gn KP35:=
 Al Aw Ag (pall34 h) WJ (fun p=>by
  show(Cm 40 (CH _ _)&&(Cm 40 (.agg (Cf _))&&true))=true;rw[AU];rfl) (fun _=>by unfold uu;split<;>rfl)
def iY {α:Type} [DecidableEq α] (x:α):List α->Nat->Int
 | [],_=> -1
 |a::l,i=>if x=a then(i:Nat)else iY x l (i+1)
theorem Nc {α:Type} [DecidableEq α] {x:α}:∀ {l:List α} {i:Nat},0<=iY x l i↔x∈l
 | [],_=>⟨fun h=>by have:(0:Int)<=-1:=h;omega,fun h=>absurd h List.not_mem_nil⟩
 |a::l,i=>by
  unfold iY;by_cases h:x=a
  .rw[if_pos h,h];exact⟨fun _=>Qh,fun _=>by omega⟩
  .rw[if_neg h,Nc,Qk];exact⟨.inr,fun e=>e.resolve_left h⟩
theorem Vj (l:List Int) (n:Int) (hl:l.length<=4000):Cj (EK KP35) 240 [az l,.int .i64 n] S0 (.int .i64 (iY n l 0)):=by
 refine As U ?_;have hlen:=Fc l;refine Ew U<|Sq<|Es<|qm U<|Lq (kn U hlen) U<|Lw U<|Sb<|Ai (fun i:Nat=>([(8,.int .i64 (i:Nat)),(7,.int .i64 (l.length:Nat)),(0,az l),(1,.int .i64 n)],Y9 0 0 [] [])) (fun i=>l.length-i) (fun i=>i<=l.length/\iY n l 0=iY n (l.drop i) i) 0 ⟨Qo _,rfl⟩ U (Ac (by trivial)) ?_;rintro i ⟨hi,ha⟩;dsimp only at hi ha|-;by_cases h:i<l.length
 .have YK:=FA h;rw[List.drop_eq_getElem_cons h,iY]at ha;focus
   refine Ew U<|Sq<|Cd U (fun h1=>?_) (fun h1=>?_);refine Sk<|Sq<|Sb<|Ew U<|Es<|Lv 3 U<|Lq (kv U YK) U<|Lw U<|Cd U (fun h2=>?_) (fun h2=>?_);refine Ew U<|Se (Er U ?_);rotate_left;refine Sk<|Sr<|Lq (ka (b:=1) U (by omega)) U<|Lw U ?_;rotate_left;omega
  .rw[ha,if_pos h2]
  .rw[if_neg h2]at ha;exact⟨i+1,⟨h,ha⟩,by show l.length-(i+1)<l.length-i;omega,U,U,Ac (by trivial)⟩
 .obtain rfl:i=l.length:=by omega
  rw[List.drop_length]at ha;focus
   refine Ew U<|Sq<|Cd U (fun h1=>?_) (fun h1=>?_);omega;refine Sx<|Ax U<|Ew U<|Se (Er U ?_);rotate_left
  rw[ha];rfl
noncomputable def KP36:=CX KP35 240 fG (fun p=> .int .i64 (iY p.1.2 p.1.1 0))
theorem hq_240 {l:List Int} {n:Int} (h:l.length<=4000):KP36 240 [az l,.int .i64 n]=some (.int .i64 (iY n l 0)):=Aj (enc:=fG) (fun a b h=>by rw[FW a b h]) ⟨(l,n),h⟩
theorem NW (l:List Int) (n:Int) (hl:l.length<=4000):Cj (EK KP36) 186 [az l,.int .i64 n] S0 (.bool (decide (n∈l))):=by
 have hit_240:KP36 240 [az l,.int .i64 n]=some (.int .i64 (iY n l 0)):=hq_240 hl;refine As U<|Ew U<|Es<|Lv 2 U<|Lo (kc U (hit_240)) U<|Lw U<|Se (Er U ?_);refine Ab ?_;rw[show decide (0<=iY n l 0)=decide (n∈l)from decide_eq_decide.2 Nc]
noncomputable def KP37:=CX KP36 186 fG (fun p=> .bool (decide (p.1.2∈p.1.1)))
theorem hq_186 {l:List Int} {n:Int} (h:l.length<=4000):KP37 186 [az l,.int .i64 n]=some (.bool (decide (n∈l))):=Aj (enc:=fG) (fun a b h=>by rw[FW a b h]) ⟨(l,n),h⟩
theorem VB (l:List Zi) (w:Zi) (hl:l.length<=4000):Cj (EK KP37) 175 [CY l,.J w] S0 (.int .i64 (iY w l 0)):=by
 refine As U ?_;have hlen:=J1 l;refine Ew U<|Sq<|Es<|qm U<|Lq (kn U hlen) U<|Lw U<|Sb<|Ai (fun i:Nat=>([(8,.int .i64 (i:Nat)),(7,.int .i64 (l.length:Nat)),(0,CY l),(1,.J w)],Y9 0 0 [] [])) (fun i=>l.length-i) (fun i=>i<=l.length/\iY w l 0=iY w (l.drop i) i) 0 ⟨Qo _,rfl⟩ U (Ac (by trivial)) ?_;rintro i ⟨hi,ha⟩;dsimp only at hi ha|-;by_cases h:i<l.length
 .have YK:=Oi h;rw[List.drop_eq_getElem_cons h,iY]at ha;focus
   refine Ew U<|Sq<|Cd U (fun h1=>?_) (fun h1=>?_);refine Sk<|Sq<|Sb<|Ew U<|Es<|Lv 3 U<|Lq (kv U YK) U<|Lv 1 U<|Lq (Bx U Zr U U U U) U<|Ld<|Cb U (fun g2=>?_) (fun g2=>?_);have h2:=bT g2;refine Ew U<|Se (Er U ?_);rotate_left;have h2:=bF g2;refine Sk<|Sr<|Lq (ka (b:=1) U (by omega)) U<|Lw U ?_;rotate_left;omega
  .rw[ha,if_pos h2]
  .rw[if_neg h2]at ha;exact⟨i+1,⟨h,ha⟩,by show l.length-(i+1)<l.length-i;omega,U,U,Ac (by trivial)⟩
 .obtain rfl:i=l.length:=by omega
  rw[List.drop_length]at ha;focus
   refine Ew U<|Sq<|Cd U (fun h1=>?_) (fun h1=>?_);omega;refine Sx<|Ax U<|Ew U<|Se (Er U ?_);rotate_left
  rw[ha];rfl
noncomputable def KP38:=CX KP37 175 lk (fun p=> .int .i64 (iY p.1.2 p.1.1 0))
theorem hq_175 {l:List Zi} {w:Zi} (h:l.length<=4000):KP38 175 [CY l,.J w]=some (.int .i64 (iY w l 0)):=Aj (enc:=lk) (fun a b h=>by rw[KA a b h]) ⟨(l,w),h⟩
theorem fin_to (n a b:Int):Cj (EK KP38) 78 [.int .i64 n,.int .i64 a,.int .i64 b] S0 (.bool (ZZ n a b)):=by
 refine As U ?_;focus
  refine Ew U<|Es<|Lv 4 U<|Bb U (fun g1=>?_) (fun g1=>?_);have h1:=dT g1;refine Lw U<|AA (Er U<|Ab ?_);rotate_left;have h1:=dF g1;refine Lw U<|AA (Er U<|Ab ?_);rotate_left
 all_goals (unfold ZZ;rw[g1];rfl)
noncomputable def KQ38:=CX KP38 78 (fun p:Int×Int×Int=>[.int .i64 p.1,.int .i64 p.2.1,.int .i64 p.2.2]) (fun p=> .bool (ZZ p.1 p.2.1 p.2.2))
theorem Pr {n a b:Int}:KQ38 78 [.int .i64 n,.int .i64 a,.int .i64 b]=some (.bool (ZZ n a b)):=Aj (by
 rintro⟨a,b,c⟩ ⟨a',b',c'⟩ h;simp only[List.cons.injEq,AV.int.injEq,true_and,and_true]at h;obtain⟨rfl,rfl,rfl⟩:=h;rfl) (n,a,b)
theorem Oo (l:List Zi) (w:Zi) (hl:l.length<=4000):Cj (EK KQ38) 111 [CY l,.J w] S0 (.bool (decide (w∈l))):=by
 have hit_175:KQ38 175 [CY l,.J w]=some (.int .i64 (iY w l 0)):=hq_175 hl;refine As U<|Ew U<|Es<|Lv 2 U<|Lo (kc U (hit_175)) U<|Lw U<|Se (Er U ?_);refine Ab ?_;rw[show decide (0<=iY w l 0)=decide (w∈l)from decide_eq_decide.2 Nc]
noncomputable def dX:=CX KQ38 111 lk (fun p=> .bool (decide (p.1.2∈p.1.1)))
theorem hq_111 {l:List Zi} {w:Zi} (h:l.length<=4000):dX 111 [CY l,.J w]=some (.bool (decide (w∈l))):=Aj (enc:=lk) (fun a b h=>by rw[KA a b h]) ⟨(l,w),h⟩
theorem Pi (p:IxT):(lk p).all (Cm 40)=true:=by
 show(Cm 40 (CY p.1.1)&&true)=true;rw[BE];rfl
theorem pall39 (h:CM Tryz.prog 8 [] (.bool true)):Co Tryz.prog gn dX:=by
 have a1:Co Tryz.prog gn KP36:=Al Aw Ag (pall35 h) (fun p:ZnT=>Vj p.1.1 p.1.2 p.2) FB (fun _=>rfl);have a2:Co Tryz.prog gn KP37:=Al Aw Ag a1 (fun p:ZnT=>NW p.1.1 p.1.2 p.2) FB (fun _=>rfl);have a3:Co Tryz.prog gn KP38:=Al Aw Ag a2 (fun p:IxT=>VB p.1.1 p.1.2 p.2) Pi (fun _=>rfl);have a4:Co Tryz.prog gn KQ38:=AE a3 fun p:Int×Int×Int=>Bp Aw Ag a3 (fin_to p.1 p.2.1 p.2.2) rfl rfl;exact Al Aw Ag a4 (fun p:IxT=>Oo p.1.1 p.1.2 p.2) Pi (fun _=>rfl)
theorem Gt (t:Cc):0<(C9 t).length:=by cases t;exact Nat.succ_pos _
theorem LZ (a b:List Cc):CP (a++b)=CP a++CP b:=by
 induction a with
 |nil=>rfl
 |cons t a ih=>rw[List.cons_append,CP,CP,ih,List.append_assoc]
theorem Ww {ks:List Cc} {i:Nat} (h:i<ks.length):CP ks=CP (ks.take i)++(C9 ks[i]++CP (ks.drop (i+1))):=by
 conv=>lhs;rw[<-List.take_append_drop i ks,List.drop_eq_getElem_cons h]
 rw[LZ,CP]
theorem Rh {ks:List Cc} {i:Nat} (h:i<ks.length):(CP (ks.take (i+1))).length=(CP (ks.take i)).length+(C9 ks[i]).length:=by
 rw[List.take_add_one,Qi h,Option.toList_some,LZ,Qm,CP,CP,List.append_nil]
def xz (L:List Cc) (j:Nat) (M:List Cc):Prop:=j+M.length<=L.length/\∀i (hi:i<M.length),L[j+i]?=some M[i]
theorem xz.app {L A B:List Cc} {j:Nat} (h:xz L j (A++B)):xz L j A/\xz L (j+A.length) B:=by
 obtain⟨h1,h2⟩:=h;rw[Qm]at h1;refine⟨⟨by omega,fun i hi=>?_⟩,by omega,fun i hi=>?_⟩
 .rw[h2 i (by rw[Qm];omega),List.getElem_append_left]
 .rw[Nat.add_assoc,h2 (A.length+i) (by rw[Qm];omega),List.getElem_append_right (by omega)];simp
theorem xz.cons {L M:List Cc} {x:Cc} {j:Nat} (h:xz L j (x::M)):(∃hj:j<L.length,L[j]=x)/\xz L (j+1) M:=by
 have h2:=xz.app (A:=[x]) (B:=M) h;refine⟨?_,h2.2⟩;have h3:=h2.1.2 0 (Nat.zero_lt_one);have h4:j<L.length:=h2.1.1;refine⟨h4,?_⟩;rw[Nat.add_zero,Qi h4]at h3;exact Option.some.inj h3
structure rD (b base:Nat) (L:List Cc) (C:Nat->Nat->Tr Cv->Prop) (D:Nat->Tr Cv->Prop):Prop where
 mono:∀ {j n h n' h'},C j n h->n<=n'->(∀d,d<n->h'.u d=h.u d)->C j n' h'
 c:∀j (hj:j<L.length) (st:St),base<=st.b->st.b<=st.a->C j st.a st.heap->kD (EK dX) b [.agg (Cf L[j])] st fun v s'=>st.a<=s'.a/\s'.b=st.b/\b∈s'.c/\(∀d∈s'.c,d∈st.c\/d<st.b)/\
  (∀d,base<=d->d<st.a->s'.heap.u d=st.heap.u d)/\(v=true->C (j+1) s'.a s'.heap)/\(v=false->D s'.a s'.heap)
 a:b<base
 e:L.length<=100000
structure fH (b base:Nat) (s:St) (j m:Nat) (C:Nat->Nat->Tr Cv->Prop) (D:Nat->Tr Cv->Prop) (r:Bool) (s3:St):Prop where
 e:s3.b=s.b
 a:s.a<=s3.a
 log:∀d∈s3.c,d∈s.c\/d<s.b
 g:∀d∈s.c,d∈s3.c
 heap:∀d,base<=d->d<s.a->s3.heap.u d=s.heap.u d
 f:b<s.b->(m≠0\/r=false)->b∈s3.c
 c:r=true->C (j+m) s3.a s3.heap
 no:r=false->D s3.a s3.heap
theorem EI {K:FuncId->List AV->Option AV} {f:FuncId} {fn:Func} {c:Code} {args:List AV} {s:St} {R:AV->St->Prop} {rs:List ResultVar} {fr:Fr} {l0:Sl} (hm:K f args=none) (hz:(EK K).e f=1) (hf:(EK K).a.u f=some fn) (hc:fn.body=some c) (hr:fn.results.toList=rs)
 (cI:frame fn.ntmps args none=fr) (hl:bV 0 args []=l0) (h:CA (EK K) c fr l0 s.u fun ex fr l st=>(ex= .Z\/ex= .J)/\fr.defers=[]/\∃v,CO (EK K) st l rs=some [v]/\jJ v=true/\(st.c=[]->R v s)/\R v (s.M st)):CD (EK K) f args s R:=by
 refine CD.gen hm hf hc hr cI hl (h.mono fun ex fr l st ⟨h1,h2,v,h3,hp,h4,h5⟩=>⟨h1,st,by rw[h2];rfl,[v],h3,?_⟩);exact AQ hz (fun _ _=>by show CW _ _ 40 v []=_;cases v<;>first|rfl|cases hp) (fun _=>by show Cw _ 40 v=true;cases v<;>first|rfl|cases hp) h4 fun _=>h5
section
variable {b base : Nat} {L : List Cc} {C : Nat -> Nat -> Tr Cv -> Prop} {D : Nat -> Tr Cv -> Prop}
theorem fH.u {s st:St} {j m:Nat} {r:Bool} (hn:s.a<=st.a) (cI:∀d,base<=d->d<s.a->st.heap.u d=s.heap.u d) (hb:(m≠0\/r=false)->b∈st.c) (hC:r=true->C (j+m) st.a st.heap) (hD:r=false->D st.a st.heap):fH b base s j m C D r (s.M st):=
 ⟨rfl,hn,fun d hd=>(DB hd).imp id And.right,fun d hd=>HS hd _,cI,fun C8 hm=>E1 (hb hm) C8,hC,hD⟩
def nd (CZ bv:Nat):AV:= .G' (.func 238) [] [.Z CZ 0,.Z bv 0]
structure jk (b base CZ bv:Nat) (s:St):Prop where
 a:base<=s.b
 c:s.b<=s.a
 y:base<=CZ/\CZ<s.a
 v:base<=bv/\bv<s.a
 d:s.heap.u CZ=some (.J [.G' (.yield b) [] []] 49 false)
 e:s.heap.u bv=some (.J [nd CZ bv] 49 false)
theorem jk.u {CZ bv:Nat} {s:St} (h:jk b base CZ bv s):jk b base CZ bv s.u:=⟨Nat.le_trans h.a h.c,Qj _,h.y,h.v,h.d,h.e⟩
theorem jk.A {CZ bv:Nat} {s s':St} (h:jk b base CZ bv s) (hb:s'.b=s.b) (hn:s.a<=s'.a) (hf:∀d,base<=d->d<s.a->s'.heap.u d=s.heap.u d):jk b base CZ bv s':=
 ⟨by rw[hb];exact h.a,by rw[hb];exact Nat.le_trans h.c hn,⟨h.y.1,Nat.lt_of_lt_of_le h.y.2 hn⟩,⟨h.v.1,Nat.lt_of_lt_of_le h.v.2 hn⟩,(hf _ h.y.1 h.y.2).trans h.d,(hf _ h.v.1 h.v.2).trans h.e⟩
def uv (b base CZ bv:Nat) (L:List Cc) (C:Nat->Nat->Tr Cv->Prop) (D:Nat->Tr Cv->Prop) (d:Nat):Prop:=
 ∀(t:Cc) (j:Nat) (s:St),CL t<=d->xz L j (C9 t)->jk b base CZ bv s->C j s.a s.heap->CD (EK dX) 238 [.agg (Cf t),.Z CZ 0,.Z bv 0] s fun v s3=>∃r,v= .bool r/\fH b base s j (C9 t).length C D r s3
theorem UN (H:rD b base L C D) {CZ bv bi d:Nat} (hV:uv b base CZ bv L C D d) {t:Cc} {j:Nat} {s:St} (ht:CL t<=d) (hA:xz L j (C9 t)) (hB:jk b base CZ bv s) (hC:C j s.a s.heap)
 (sq:base<=bi/\bi<s.a) (gi:s.heap.u bi=some (.J [nd CZ bv] 49 false)):CD (EK dX) 272 [.agg (Cf t),.Z bi 0] s fun v s3=>∃r,v= .bool (!r)/\fH b base s j (C9 t).length C D r s3:=by
 refine EI (fn:=Tryz.f272) U U U U U U U ?_;have e0:=Ak t;rw[e0];obtain⟨sB,bL⟩:∃x,x=s.u.A (.J [.int .i64 t.op,.int .i64 t.n,Cs t.u] 47 false):=⟨_,rfl⟩
 have g1:sB.heap.u bi=some (.J [.G' (.func 238) [] [.Z CZ 0,.Z bv 0]] 49 false):=by rw[bL];exact(Au sq.2).trans gi
 have g3:sB.heap.u s.a=some (.J [.int .i64 t.op,.int .i64 t.n,Cs t.u] 47 false):=by rw[bL];exact A1
 have nB:sB.a=s.a+1:=by rw[bL];rfl
 have bB:sB.b=s.a:=by rw[bL];rfl
 have oB:∀d,d<s.a->sB.heap.u d=s.heap.u d:=fun d hd=>by rw[bL];exact Au hd
 have hr:=hV t j sB ht hA (hB.u.A (by rw[bB];rfl) (by rw[nB];exact Nat.le_succ _) fun d _ hd=>oB d hd) (H.mono hC (by omega) oB);rw[e0]at hr;refine Es<|Lo (ZU.box U U U) U<|Lw U ?_;show CA _ _ _ _ (s.u.A (.J [.int .i64 t.op,.int .i64 t.n,Cs t.u] 47 false)) _;rw[<-bL];clear bL;refine Es<|Lo (kl U g1 U) U<|Lo (kL U g3 U) U<|BN U U U U U U U U U (CD.mono hr ?_);rintro v s' ⟨r,rfl,e⟩;have mI:b<s.a:=Nat.lt_of_lt_of_le H.a (Nat.le_trans hB.a hB.c);have CU:=e.f (by omega) (.inl (Nat.ne_of_gt (Gt ..)));have e2:=e.a;refine Lw U<|Se ?_;exact⟨.inl U,rfl,_,Aa U U,rfl,fun h=>absurd h (List.ne_nil_of_mem CU),r,rfl,fH.u (by omega) (fun c h1 h2=>(e.heap c h1 (by omega)).trans (oB c h2)) (fun _=>CU) e.c e.no⟩
theorem idx_run (H:rD b base L C D) {CZ bv bi d:Nat} (hV:uv b base CZ bv L C D d) {ks:List Cc} {j:Nat} {s:St} (hd:∀t∈ks,CL t<=d) (hA:xz L j (CP ks)) (hB:jk b base CZ bv s) (hC:C j s.a s.heap)
 (sq:base<=bi/\bi<s.a) (gi:s.heap.u bi=some (.J [nd CZ bv] 49 false)):CD (EK dX) 300 [Cs ks,.G' (.func 272) [] [.Z bi 0]] s
  fun v s3=>∃r,((r=true/\v= .int .i64 (-1))\/(r=false/\∃i:Nat,v= .int .i64 (i:Nat)))/\fH b base s j (CP ks).length C D r s3:=by
 refine EI (fn:=Tryz.f300) U U U U U U U ?_;have mI:b<s.a:=Nat.lt_of_lt_of_le H.a (Nat.le_trans hB.a hB.c);have uz:ks.length<=100000:=by
  have h1:=hA.1;have h2:ks.length<=(CP ks).length:=by
   clear hA hd h1;induction ks with
   |nil=>exact Qj _
   |cons t ts ih=>rw[CP,Qm,List.length_cons];have:=Gt t;omega
  have:=H.e;omega
 have hlen:=BC (l:=ks);refine Ew U<|Sq<|Ew U<|Sb<|Ai (fun y:Nat×St=>([(8,.int .i64 (y.1:Nat)),(7,.int .i64 (ks.length:Nat)),(0,Cs ks),(1,.G' (.func 272) [] [.Z bi 0])],y.2)) (fun y=>ks.length-y.1)
  (fun y=>y.1<=ks.length/\y.2.b=s.a/\s.a<=y.2.a/\(∀d,base<=d->d<s.a->y.2.heap.u d=s.heap.u d)/\(y.1≠0->b∈y.2.c)/\C (j+(CP (ks.take y.1)).length) y.2.a y.2.heap)
  (0,s.u) ⟨Qo _,rfl,Qj _,fun _ _ _=>rfl,fun h=>absurd rfl h,hC⟩ rfl (Ac (by trivial)) ?_
 rintro⟨i,st⟩ ⟨hi,wH,fB,cI,Z9,hCi⟩;dsimp only at hi wH fB cI Z9 hCi|-;by_cases h:i<ks.length
 .have YK:=BD h;have e0:=Ak ks[i];rw[e0]at YK;have hAi:=hA;rw[Ww h]at hAi;have hr:=UN H hV (s:=st) (hd _ (Ql h)) hAi.app.2.app.1 (hB.u.A wH fB cI) hCi ⟨sq.1,by omega⟩ ((cI bi sq.1 sq.2).trans gi);rw[e0]at hr;focus
   refine Ew U<|Sq<|Cd U (fun h1=>?_) (fun h1=>?_);refine Sk<|Sq<|Sb<|Ew U<|Es<|Lv 3 U<|Lq (kv U YK) U<|Lv 1 U ?_;rotate_left;omega
  refine BN U U U U U U U U U (CD.mono hr ?_);rintro v s' ⟨r,rfl,e⟩;have e1:=e.e.trans wH;have e2:=e.a;have CU:=e.f (by omega) (.inl (Nat.ne_of_gt (Gt ..)));have hfr2:∀d,base<=d->d<s.a->s'.heap.u d=s.heap.u d:=fun c h1 h2=>(e.heap c h1 (by omega)).trans (cI c h1 h2);cases r with
  |true=>
   refine Ld<|Tf U<|Sk<|Sr<|Lq (ka (b:=1) U (by omega)) U<|Lw U ?_;refine⟨(i+1,s'),⟨h,e1,by show s.a<=s'.a;omega,hfr2,fun _=>CU,?_⟩,by show ks.length-(i+1)<ks.length-i;omega,rfl,rfl,Ac (by trivial)⟩;rw[Rh h,<-Nat.add_assoc];exact e.c U
  |false=>
   refine Ld<|Tt U<|Ew U<|Se ?_;exact⟨.inl U,rfl,_,Aa U U,rfl,fun h=>absurd h (List.ne_nil_of_mem CU),false,.inr ⟨rfl,i,rfl⟩,fH.u (by omega) hfr2 (fun _=>CU) (fun h=>by cases h) e.no⟩
 .obtain rfl:i=ks.length:=by omega
  rw[List.take_length]at hCi;focus
   refine Ew U<|Sq<|Cd U (fun h1=>?_) (fun h1=>?_);omega;refine Sx<|Ax U<|Ew U ?_;rotate_left
  refine Se ?_;refine⟨.inl U,rfl,_,Aa U U,rfl,fun h=>⟨true,.inl ⟨rfl,rfl⟩,?_⟩,true,.inl ⟨rfl,rfl⟩,fH.u fB cI (fun hm=>Z9 fun h0=>(hm.elim id fun h=>by cases h) ?_) (fun _=>hCi) fun h=>by cases h⟩
  .have h0:ks.length=0:=Decidable.byContradiction fun hn=>List.ne_nil_of_mem (Z9 hn) h;obtain rfl:=List.length_eq_zero_iff.1 h0;exact⟨rfl,Qj _,fun d hd=> .inl hd,fun d hd=>hd,fun _ _ _=>rfl,fun _ hm=>hm.elim (absurd U) (fun h=>by cases h),fun _=>hC,fun h=>by cases h⟩
  .obtain rfl:=List.length_eq_zero_iff.1 h0;rfl
theorem fH.A {s st:St} {j m:Nat} {r:Bool} (h:fH b base s.u j m C D r st) (hb:(m≠0\/r=false)->b∈st.c):fH b base s j m C D r (s.M st):=fH.u h.a h.heap hb h.c h.no
theorem fH.none {s:St} {j:Nat} (hC:C j s.a s.heap):fH b base s j 0 C D true s:=⟨rfl,Qj _,fun _ h=> .inl h,fun _ h=>h,fun _ _ _=>rfl,fun _ h=>h.elim (absurd rfl) (fun h=>by cases h),fun _=>hC,fun h=>by cases h⟩
theorem PR (H:rD b base L C D) {CZ bv bi d:Nat} (hV:uv b base CZ bv L C D d) {ks:List Cc} {j:Nat} {s:St} (hd:∀t∈ks,CL t<=d) (hA:xz L j (CP ks)) (hB:jk b base CZ bv s) (hC:C j s.a s.heap)
 (sq:base<=bi/\bi<s.a) (gi:s.heap.u bi=some (.J [nd CZ bv] 49 false)):CD (EK dX) 271 [Cs ks,.G' (.func 272) [] [.Z bi 0]] s
  fun v s3=>∃r,v= .bool (!r)/\fH b base s j (CP ks).length C D r s3:=by
 refine EI (fn:=Tryz.f271) U U U U U U U ?_;have mI:b<s.a:=Nat.lt_of_lt_of_le H.a (Nat.le_trans hB.a hB.c);refine Ew U<|Es<|Lv 2 U<|kf U (CD.mono (idx_run H hV hd hA hB.u hC sq gi) ?_);rintro v s' ⟨r,hv,e⟩;have Z9:((CP ks).length≠0\/r=false)->b∈s'.c:=fun h=>e.f mI h;have hnil:s'.c=[]->fH b base s j (CP ks).length C D true s:=fun h=>by
  have h0:(CP ks).length=0:=Decidable.byContradiction fun hn=>List.ne_nil_of_mem (Z9 (.inl hn)) h;rw[h0];exact fH.none hC
 rcases hv with⟨rfl,rfl⟩|⟨rfl,i,rfl⟩
 .refine Lw U<|Se ?_;exact⟨.inl U,rfl,_,Aa U U,rfl,fun h=>⟨true,rfl,hnil h⟩,true,rfl,e.A Z9⟩
 .refine Lw U<|Se ?_;refine⟨.inl U,rfl,_,Aa U U,rfl,fun h=>absurd h (List.ne_nil_of_mem (Z9 (.inr U))),false,?_,e.A Z9⟩;rw[decide_eq_true (by omega)];rfl
theorem UF (H:rD b base L C D) {CZ bv d:Nat} (hV:uv b base CZ bv L C D d) {ks:List Cc} {j:Nat} {s:St} (hd:∀t∈ks,CL t<=d) (hA:xz L j (CP ks)) (hB:jk b base CZ bv s) (hC:C j s.a s.heap):
 CD (EK dX) 239 [Cs ks,nd CZ bv] s fun v s3=>∃r,v= .bool r/\fH b base s j (CP ks).length C D r s3:=by
 refine EI (fn:=Tryz.f239) U U U U U U U ?_;have iO:base<=s.a:=Nat.le_trans hB.a hB.c;have mI:b<s.a:=Nat.lt_of_lt_of_le H.a iO;obtain⟨sB,bL⟩:∃x,x=s.u.A (.J [nd CZ bv] 49 false):=⟨_,rfl⟩
 have g0:sB.heap.u s.a=some (.J [nd CZ bv] 49 false):=by rw[bL];exact A1
 have nB:sB.a=s.a+1:=by rw[bL];rfl
 have bB:sB.b=s.a:=by rw[bL];rfl
 have oB:∀d,d<s.a->sB.heap.u d=s.heap.u d:=fun d hd=>by rw[bL];exact Au hd
 have hr:=PR H hV (s:=sB) (bi:=s.a) hd hA (hB.u.A (by rw[bB];rfl) (by rw[nB];exact Nat.le_succ _) fun d _ hd=>oB d hd) (H.mono hC (by omega) oB) ⟨iO,by omega⟩ g0;refine Es<|Lo (ZU.box U U U) U<|Lw U ?_;show CA _ _ _ _ (s.u.A (.J [nd CZ bv] 49 false)) _;rw[<-bL];have lB:sB.c=[]:=by rw[bL];rfl
 clear bL;refine Es<|Lv 2 U<|kf U (CD.mono hr ?_);rintro v s' ⟨r,rfl,e⟩;have Z9:((CP ks).length≠0\/r=false)->b∈s'.c:=fun h=>e.f (by omega) h;have e2:=e.a;cases r with
 |true=>
  refine Lw U<|Se ?_;refine⟨.inl U,rfl,_,Aa U U,rfl,fun h=>⟨true,rfl,?_⟩,true,rfl,fH.u (by omega) (fun c h1 h2=>(e.heap c h1 (by omega)).trans (oB c h2)) Z9 e.c e.no⟩;have h0:(CP ks).length=0:=Decidable.byContradiction fun hn=>List.ne_nil_of_mem (Z9 (.inl hn)) h;rw[h0];exact fH.none hC
 |false=>
  refine Lw U<|Se ?_;exact⟨.inl U,rfl,_,Aa U U,rfl,fun h=>absurd h (List.ne_nil_of_mem (Z9 (.inr U))),false,rfl,fH.u (by omega) (fun c h1 h2=>(e.heap c h1 (by omega)).trans (oB c h2)) Z9 e.c e.no⟩
theorem TJ (H:rD b base L C D) {CZ bv:Nat}:∀d,uv b base CZ bv L C D d:=by
 intro d;induction d with
 |zero=>intro t j s ht;rw[Fy]at ht;omega
 |succ d ih=>
  intro t j s ht hA hB hC;obtain⟨o,n,ks⟩:=t;have mI:b<s.a:=Nat.lt_of_lt_of_le H.a (Nat.le_trans hB.a hB.c);have iO:base<=s.a:=Nat.le_trans hB.a hB.c;have lh:∀t∈ks,CL t<=d:=fun t h=>by have:=Bg h;have:Yl ks+1<=d+1:=ht;omega
  have hAc:=hA;rw[C9]at hAc;obtain⟨⟨hj,hLj⟩,hA2⟩:=hAc.cons;refine EI (fn:=Tryz.f238) U U U U U U U ?_;obtain⟨sB,bL⟩:∃x,x=s.u.A (.J [.int .i64 o,.int .i64 n,Cs ks] 47 false):=⟨_,rfl⟩
  have nB:sB.a=s.a+1:=by rw[bL];rfl
  have bB:sB.b=s.a:=by rw[bL];rfl
  have oB:∀d,d<s.a->sB.heap.u d=s.heap.u d:=fun d hd=>by rw[bL];exact Au hd
  have g0:sB.heap.u s.a=some (.J [.int .i64 o,.int .i64 n,Cs ks] 47 false):=by rw[bL];exact A1
  have gy:sB.heap.u CZ=some (.J [.G' (.yield b) [] []] 49 false):=(oB _ hB.y.2).trans hB.d;have hy:=H.c j hj sB (by omega) (by omega) (H.mono hC (by omega) oB);rw[hLj,AG]at hy;rw[AG];refine Es<|Lo (ZU.box U U U) U<|Lw U ?_;show CA _ _ _ _ (s.u.A (.J [.int .i64 o,.int .i64 n,Cs ks] 47 false)) _;rw[<-bL];clear bL;refine Es<|Lo (kl U gy U) U<|Lo (kL U g0 U) U<|KY U U U U U U U hy ?_;rintro v s' ⟨y1,y2,y3,y4,y5,y6,y7⟩;have f0:∀d,base<=d->d<s.a->s'.heap.u d=s.heap.u d:=fun d h1 h2=>(y5 d h1 (by omega)).trans (oB d h2);have g0':=(y5 s.a iO (by omega)).trans g0;have gv':s'.heap.u bv=some (.J [nd CZ bv] 49 false):=(f0 bv hB.v.1 hB.v.2).trans hB.e;cases v with
  |false=>
   refine Lw U<|Se ?_;exact⟨.inl U,rfl,_,Aa U U,rfl,fun h=>absurd h (List.ne_nil_of_mem y3),false,rfl,fH.u (by omega) f0 (fun _=>y3) (fun h=>by cases h) y7⟩
  |true=>
   have hr:=UF H ih (s:=s') (j:=j+1) (CZ:=CZ) (bv:=bv) lh hA2 (hB.u.A (y2.trans bB) (show s.a<=s'.a by omega) f0) (y6 rfl);refine Lv 2 U ?_;iterate 2 refine Lg U U (kl U ‹_› U) ?_
   refine Ge U U U U U<|kf U (CD.mono hr ?_);rintro w s3 ⟨r,rfl,e⟩;have e2:=e.a;refine Lw U<|Se ?_;have CU:b∈s3.c:=e.g b y3;refine⟨.inl U,rfl,_,Aa U U,rfl,fun h=>absurd h (List.ne_nil_of_mem CU),r,rfl,fH.u (by omega) (fun c h1 h2=>(e.heap c h1 (by omega)).trans (f0 c h1 h2)) (fun _=>CU) (fun h=>?_) e.no⟩;rw[C9,List.length_cons,Nat.add_comm _ 1,<-Nat.add_assoc];exact e.c h
def AllF (s:St) (L:List Cc) (C:Nat->Nat->Tr Cv->Prop) (D:Nat->Tr Cv->Prop):AV->St->Prop:=fun _ s3=>s3.b=s.b/\s.a<=s3.a/\(∀d∈s3.c,d∈s.c\/d<s.b)/\(C L.length s3.a s3.heap\/D s3.a s3.heap)
theorem TN {s:St} {bt:Nat} {t:Cc} (H:rD b s.a (C9 t) C D) (hC:C 0 s.a s.heap) (hbt:bt<s.a) (gt:s.heap.u bt=some (.J (Cf t) 47 false)):
 CD (EK dX) 237 [.G' (.yield b) [] [],.Z bt 0] s (AllF s (C9 t) C D):=by
 refine CD.unit (fn:=Tryz.f237) U U U U U U ?_;obtain⟨sB,bL⟩:∃x,x=s.u.A (.J [.G' (.yield b) [] []] 49 false):=⟨_,rfl⟩
 have nB:sB.a=s.a+1:=by rw[bL];rfl
 have bB:sB.b=s.a:=by rw[bL];rfl
 have oB:∀d,d<s.a->sB.heap.u d=s.heap.u d:=fun d hd=>by rw[bL];exact Au hd
 have g0:sB.heap.u s.a=some (.J [.G' (.yield b) [] []] 49 false):=by rw[bL];exact A1
 obtain⟨a1,a2,a3,a4,a5,a6,a7⟩:=FY (st:=sB) (z:=[.Cz]) (cs:=[.G' (.func 238) [] [.Z s.a 0,.Z sB.a 0]]) (T:=49);have e0:=Ak t;rw[e0]at gt;refine Es<|Lo (ZU.box U U U) U<|Ld ?_;show CA _ _ _ _ (s.u.A (.J [.G' (.yield b) [] []] 49 false)) _;rw[<-bL];clear bL;have gt2:=(a4 bt (by omega)).trans ((oB bt hbt).trans gt);have hB:jk b s.a s.a sB.a ((sB.A (.J [.Cz] 49 false)).B sB.a (some (.J [.G' (.func 238) [] [.Z s.a 0,.Z sB.a 0]] 49 false))):=
  ⟨by rw[a5];omega,by rw[a5,a7];omega,⟨Qj _,by rw[a7];omega⟩,⟨by omega,by rw[a7];omega⟩,(a4 s.a (by omega)).trans g0,a2⟩
 have hC2:=H.mono hC (show s.a<=((sB.A (.J [.Cz] 49 false)).B sB.a (some (.J [.G' (.func 238) [] [.Z s.a 0,.Z sB.a 0]] 49 false))).a by rw[a7];omega) fun d hd=>(a4 d (by omega)).trans (oB d hd);have hr:=TJ H (CL t) t 0 _ (Qj _) ⟨by rw[Nat.zero_add];exact Qj _,fun i hi=>by rw[Nat.zero_add];exact Qi hi⟩ hB hC2;rw[e0]at hr;refine Es<|Lo (kz U) U<|Ld<|Es<|Lv 1 U<|Ln (kw U a1 U) U<|Ld<|Sr<|Lo (kl U a2 U) U<|Lo (kL U gt2 U) U<|BN U U U U U U U U U (CD.mono hr ?_);rintro v s' ⟨r,rfl,e⟩;have e1:=e.e;have e2:=e.a;have e5:=e.f;rw[a5,bB]at e1 e5;rw[a7]at e2;have CU:=e5 H.a (.inl (Nat.ne_of_gt (Gt ..)));refine Ld ?_;refine⟨.inr U,rfl,fun h=>absurd h (List.ne_nil_of_mem CU),rfl,by show s.a<=s'.a;omega,fun d hd=>(DB hd).imp id And.right,?_⟩;have e6:=e.c;rw[Nat.zero_add]at e6;cases r with
 |true=>exact .inl (e6 rfl)
 |false=>exact .inr (e.no rfl)
end
def okP (T0:Cc->Bool) (p:Cc):Bool:=T0 p&&Z4 (C9 p) []
def dE (T0:Cc->Bool) (v:Int) (rhs:Cc):List Cc->List Int->Bool
 | [],m=>dC v (Cy rhs) (C9 rhs) m
 |p::ps,m=>if okP T0 p=true then(match gj v (Cy p) m with
  |some m'=>dE T0 v rhs ps m'
  |none=>false)else false
def nh (T0:Cc->Bool) (v:Int) (rhs:Cc) (ps:List Cc):List Int->List Int->Bool
 | [],m=>dE T0 v rhs ps m
 |z::zs,m=>if z∈m\/¬z<v then false else nh T0 v rhs ps zs (z::m)
theorem IX {T0:Cc->Bool} {v:Int} {rhs:Cc} {ps:List Cc}:∀ {zs m:List Int},nh T0 v rhs ps zs m=(match gj v zs m with
 |some m'=>dE T0 v rhs ps m'
 |none=>false)
 | [],_=>rfl
 |z::zs,m=>by
  unfold nh gj;split
  .rfl
  .exact IX
theorem Ra {T0:Cc->Bool} {v:Int} {rhs p:Cc} {ps:List Cc} {m:List Int}:dE T0 v rhs (p::ps) m=if okP T0 p=true then nh T0 v rhs ps (Cy p) m else false:=by
 rw[dE,IX]
theorem OG {T0:Cc->Bool} {v:Int} {rhs:Cc}:∀ {ps:List Cc} {m:List Int},dE T0 v rhs ps m=(match oJ (fun p=>T0 p&&Z4 (C9 p) []) v ps m with
 |some m'=>dC v (Cy rhs) (C9 rhs) m'
 |none=>false)
 | [],_=>rfl
 |p::ps,m=>by
  unfold dE oJ okP;split
  .cases gj v (Cy p) m with
   |none=>rfl
   |some m'=>exact OG
  .rfl
theorem Hb {v:Int}:∀ {zs m m':List Int},(∀x,x∈m↔x∈m')->(gj v zs m=none/\gj v zs m'=none)\/∃a b,gj v zs m=some a/\gj v zs m'=some b/\∀x,x∈a↔x∈b
 | [],m,m',h=> .inr ⟨m,m',rfl,rfl,h⟩
 |z::zs,m,m',h=>by
  unfold gj;by_cases hz:z∈m\/¬z<v
  .rw[if_pos hz,if_pos (hz.imp (h z).1 id)];exact .inl ⟨U,U⟩
  .rw[if_neg hz,if_neg (fun e=>hz (e.imp (h z).2 id))];exact Hb fun x=>by rw[Qk,Qk,h x]
theorem Fk {v:Int} {free:List Int}:∀ {L:List Cc} {m m':List Int},(∀x,x∈m↔x∈m')->dC v free L m=dC v free L m'
 | [],_,_,_=>rfl
 |x::xs,m,m',h=>by
  unfold dC;rw[Fk (L:=xs) h,Fk (L:=xs) (m:=x.n::m) (m':=x.n::m') (fun y=>by simp only[Qk,h y])];simp only[h x.n]
theorem IJ {T0:Cc->Bool} {v:Int} {rhs:Cc}:∀ {ps:List Cc} {m m':List Int},(∀x,x∈m↔x∈m')->dE T0 v rhs ps m=dE T0 v rhs ps m'
 | [],_,_,h=>Fk h
 |p::ps,m,m',h=>by
  unfold dE;split
  .rcases Hb (v:=v) (zs:=Cy p) h with⟨e1,e2⟩|⟨a,b,e1,e2,e3⟩
   .rw[e1,e2]
   .rw[e1,e2];exact IJ e3
  .rfl
theorem QD {T0:Cc->Bool} {v:Int} {rhs:Cc} {ps:List Cc} {zs m m':List Int} (h:∀x,x∈m↔x∈m'):nh T0 v rhs ps zs m=nh T0 v rhs ps zs m':=by
 rw[IX,IX];rcases Hb (v:=v) (zs:=zs) h with⟨e1,e2⟩|⟨a,b,e1,e2,e3⟩
 .rw[e1,e2]
 .rw[e1,e2];exact IJ e3
def ni (cs fs:List Ci) (r:bw):Bool:=(cQ fs r.fn (r.b.length:Nat)&&ZZ r.vars 0 20&&CQ cs fs r.a)&&dE (CQ cs fs) r.vars r.a r.b []
theorem rule_eq (cs fs:List Ci) (r:bw):ni cs fs r=c8 cs fs r:=by
 unfold ni c8;rw[OG,<-parts_eq fun t h=>Jk t (Hn h)];rfl
structure vg (cs fs:List Ci) (er:List AV) (m:List Int) (st:St):Prop where
 f:st.heap.u 0=some (.J [Cp Cq 2 cs,Cp Cq 2 fs] 40 false)
 a:st.heap.u 1=some (.J er 115 false)
 c:st.heap.u 2=some (.J [.bool false] 4 false)
 d:st.heap.u 3=some (.O (Z5 m) m.length)
 e:st.heap.u 4=some (.J [.H_ 3] 233 false)
 g:5<=st.a
 b:st.b=0
 i:st.c=[]
theorem vg.u {cs fs:List Ci} {er:List AV} {m:List Int} {st:St} {o:Cv} (h:vg cs fs er m st):vg cs fs er m (st.A o):=by
 have:=h.g;exact⟨(Au (by omega)).trans h.f,(Au (by omega)).trans h.a,(Au (by omega)).trans h.c,(Au (by omega)).trans h.d,(Au (by omega)).trans h.e,Nat.le_succ_of_le h.g,h.b,h.i⟩
theorem vg.A {cs fs:List Ci} {er:List AV} {m:List Int} {st:St} {x:Nat} {o:Option Cv} (h:vg cs fs er m st) (hx:5<=x):vg cs fs er m (st.B x o):=
 ⟨(A8 (by omega)).trans h.f,(A8 (by omega)).trans h.a,(A8 (by omega)).trans h.c,(A8 (by omega)).trans h.d,(A8 (by omega)).trans h.e,h.g,h.b,(Bu h.b).trans h.i⟩
theorem vg.B {cs fs:List Ci} {er:List AV} {m m':List Int} {st:St} (h:vg cs fs er m st):vg cs fs er m' (st.B 3 (some (.O (Z5 m') m'.length))):=
 ⟨(A8 (by decide)).trans h.f,(A8 (by decide)).trans h.a,(A8 (by decide)).trans h.c,Bz,(A8 (by decide)).trans h.e,h.g,h.b,(Bu h.b).trans h.i⟩
structure RsM (v:Int) (er:List AV) (free:List Int) (L:List Cc) (lp:dc) (F:Nat) (all:Bool) (m:List Int) (j n:Nat) (h:Tr Cv):Prop where
 g1:h.u 1=some (.J er 115 false)
 b:h.u 2=some (.J [.bool false] 4 false)
 g3:h.u 3=some (.O (Z5 m) m.length)
 g4:h.u 4=some (.J [.H_ 3] 233 false)
 gf:h.u F=some (.J [az free] 83 false)
 c:h.u (F+2)=some (.G' true)
 a:h.u (F+3)=some (.Z lp)
 d:all=dC v free (L.drop j) m
 lo:5<=F
 lt:F+4<=n
def RsC (v:Int) (er:List AV) (free:List Int) (L:List Cc) (lp:dc) (F:Nat) (all:Bool) (j n:Nat) (h:Tr Cv):Prop:=∃m,RsM v er free L lp F all m j n h
structure RsD (F:Nat) (all:Bool) (n:Nat) (h:Tr Cv):Prop where
 g2:h.u 2=some (.J [.bool false] 4 false)
 df:h.u (F+2)=some (.G' true)
 lp:∃lp,h.u (F+3)=some (.Z lp)/\lp.a= .done/\lp.b=some .ret
 no:all=false
theorem RsC.mono {v:Int} {er:List AV} {free:List Int} {L:List Cc} {lp:dc} {F:Nat} {all:Bool} {j n n':Nat} {h h':Tr Cv} (H:RsC v er free L lp F all j n h) (hn:n<=n') (hh:∀d,d<n->h'.u d=h.u d):RsC v er free L lp F all j n' h':=by
 obtain⟨m,H⟩:=H;have:=H.lt;have:=H.lo;exact⟨m,(hh 1 (by omega)).trans H.g1,(hh 2 (by omega)).trans H.b,(hh 3 (by omega)).trans H.g3,(hh 4 (by omega)).trans H.g4,(hh F (by omega)).trans H.gf,(hh (F+2) (by omega)).trans H.c,(hh (F+3) (by omega)).trans H.a,H.d,H.lo,Nat.le_trans H.lt hn⟩
theorem Gq {fr:Fr} {l:Sl} {st:St} {r v:Bool} {rs:List Nat} (hd:fr.defers=rs.map fun q=> {a:= .J q,args:=[]}) (hn:rs.Nodup) (h2:2∉rs) (hq:∀q∈rs,st.heap.u q=some (.G' true)) (h4:Am.e_ 4 l=some (.Z 2 0)) (g2:st.heap.u 2=some (.J [.bool r] 4 false)) (hb:st.b=0) (hl:st.c=[]) (hv:r=v) {ex:Ex} (hex:ex= .Z\/ex= .J):
 (ex= .Z\/ex= .J)/\∃Zy,bS fr.defers st=some Zy/\Zy.c=[]/\Zy.b=0/\∃vs w ks,CO (EK dX) Zy l (Tryz.f118).results.toList=some vs/\CW Zy 0 40 (eT vs) []=some (w,ks)/\Cw 0 40 w=true/\w= .bool v:=by
 subst hv;obtain⟨s',e1,e2,e3,e4,e5⟩:=Ff (rs:=rs) (s:=st) hn hq;refine⟨hex,s',by rw[hd];exact e1,(e4 hb).trans hl,e3.trans hb,[.bool r],.bool r,[],?_,U,U,U⟩;exact DO h4 ag_4 sz_4 ((e5 2 h2).trans g2) U U
theorem LY:∀t:Cc,(C9 t).length=Ct t
 | .mk o n ks=>by rw[C9,List.length_cons,oM ks,Ct]
where oM:∀ts:List Cc,(CP ts).length=C5 ts
 | []=>rfl
 |t::ts=>by rw[CP,Qm,LY t,oM ts,C5]
theorem rs_range {sB:St} {nt:Nat} {T:Tr AV} {ps:List Nat} {a b:Code} {v:Int} {er:List AV} {free:List Int} {t:Cc} {all:Bool} {F:Nat} {m:List Int} {R:AV->St->Prop} (hs:Ct t<=1000)
 (g1:sB.heap.u 1=some (.J er 115 false)) (g2:sB.heap.u 2=some (.J [.bool false] 4 false)) (g3:sB.heap.u 3=some (.O (Z5 m) m.length)) (g4:sB.heap.u 4=some (.J [.H_ 3] 233 false))
 (gf:sB.heap.u F=some (.J [az free] 83 false)) (gt:sB.heap.u (F+1)=some (.J (Cf t) 47 false)) (nB:sB.a=F+2) (lo:5<=F) (lJ:all=dC v free (C9 t) m)
 (hy:∀j (hj:j<(C9 t).length) (st:St),F+4<=st.b->st.b<=st.a->RsC v er free (C9 t) (xk nt T ps a b) F all j st.a st.heap->kD (EK dX) (F+3) [.agg (Cf (C9 t)[j])] st fun w s'=>st.a<=s'.a/\s'.b=st.b/\F+3∈s'.c/\(∀d∈s'.c,d∈st.c\/d<st.b)/\
  (∀d,F+4<=d->d<st.a->s'.heap.u d=st.heap.u d)/\(w=true->RsC v er free (C9 t) (xk nt T ps a b) F all (j+1) s'.a s'.heap)/\(w=false->RsD F all s'.a s'.heap))
 (k:∀w s3,AllF (aR sB nt T ps a b) (C9 t) (RsC v er free (C9 t) (xk nt T ps a b) F all) (RsD F all) w s3->R w s3):
 CD (EK dX) 237 [.G' (.yield (sB.a+1)) [] [],.Z (F+1) 0] (aR sB nt T ps a b) R:=by
 have hn:(aR sB nt T ps a b).a=F+4:=by show sB.a+2=F+4;rw[nB]
 have hb:sB.a+1=F+3:=by rw[nB]
 rw[hb];refine CD.mono (TN (t:=t) (C:=RsC v er free (C9 t) (xk nt T ps a b) F all) (D:=RsD F all) ⟨fun h hn hh=>h.mono hn hh,?_,?_,?_⟩ ?_ ?_ ?_) k
 .intro j hj st h1 h2 hC;rw[hn]at h1|-;exact hy j hj st h1 h2 hC
 .omega
 .rw[LY];omega
 .refine⟨m,(AZ (by omega)).trans g1,(AZ (by omega)).trans g2,(AZ (by omega)).trans g3,(AZ (by omega)).trans g4,(AZ (by omega)).trans gf,?_,?_,lJ,lo,by omega⟩
  .rw[show F+2=sB.a from nB.symm];exact MX
  .rw[<-hb];exact MW
 .omega
 .exact(AZ (by omega)).trans gt
theorem TM (t:Cc) (s:St):CD (EK dX) 185 [.agg (Cf t)] s fun v s'=>v= .G' (.func 237) [] [.Z s.a 0]/\s'=s.A (.J (Cf t) 47 false):=by
 rw[Ak t];refine CD.gen (fn:=Tryz.f185) U U U U U U<|Es<|Lo (ZU.box U U U) U<|Lw U<|Ew U<|Se ⟨.inl U,s.u.A (.J [.int .i64 t.op,.int .i64 t.n,Cs t.u] 47 false),U,[.G' (.func 237) [] [.Z s.a 0]],Aa U U,.J (.G' (.func 237) [] [.Z s.a 0]) (s.M (s.u.A (.J [.int .i64 t.op,.int .i64 t.n,Cs t.u] 47 false))),ES U U U ?_,U,U⟩;show(true&&(Nat.blt s.a s.a&&true))=false;rw[show Nat.blt s.a s.a=false from by rw[<-Bool.not_eq_true,Nat.blt_eq];omega];rfl
theorem frule_to (cs fs:List Ci) (r:bw) (hc:cs.length<=4000) (hf:fs.length<=4000) (gM:∀p∈cs,p.1.length<=4000) (kP:∀p∈fs,p.1.length<=4000) (kG:al cs fs=true) (nG:C5 r.b<=900) (hrh:Ct r.a<=1000):
 Cj (EK dX) 118 [CH cs fs,.agg (Yx r)] S0 (.bool (ni cs fs r)):=by
 obtain⟨fn,ps,rhs,vs⟩:=r;dsimp only at nG hrh;have uz:=Bo ps;have hlen:=BC (l:=ps);have hsr:YN rhs:=Dl rhs (by omega);have hsp:=Fh ps (by omega);have e0:=Ak rhs;have cq:dX 56 [CH cs fs,.agg (Cf rhs)]=some (.int .i64 (if CQ cs fs rhs then 0 else 2)):=hq_56 hc hf hsr gM kP kG;have oR:∀t:Cc,Ct t<=1000->dX 183 [CH cs fs,.agg (Cf t)]=some (uu cs fs t):=fun t ht=>hq_183 hc hf ht gM kP kG;have oS:∀t:Cc,Ct t<=1000->CQ cs fs t=true->dX 184 [CH cs fs,.agg (Cf t)]=some (ln t):=fun t ht hb=>hq_184 hc hf ht gM kP kG hb;have no1:(cQ fs fn (ps.length:Nat)&&ZZ vs 0 20&&CQ cs fs rhs)=false->ni cs fs ⟨fn,ps,rhs,vs⟩=false:=fun h=>by unfold ni;dsimp only;rw[h];rfl
 have yes1:(cQ fs fn (ps.length:Nat)&&ZZ vs 0 20&&CQ cs fs rhs)=true->ni cs fs ⟨fn,ps,rhs,vs⟩=dE (CQ cs fs) vs rhs ps []:=fun h=>by unfold ni;dsimp only;rw[h];rfl
 unfold Yx;unfold CH at cq oR oS|-;dsimp only;rw[e0]at cq;refine IB (fn:=Tryz.f118) (by kernel_rfl) U (by kernel_rfl) U U U U ?_;cases Z2:ZZ fn 0 ((fs.length:Int)-1)with
 |false=>
  have aZ:(!ZZ fn 0 ((fs.length:Int)-1))=true:=by rw[Z2];rfl
  refine Eh U<|Sq<|Af (by kernel_rfl)<|Nv 1 U<|Ad U GM Eo U U U (by kernel_rfl) (.inl U) U U<|Nv 1 U<|Ad U EC E9 U U U (by kernel_rfl) (.inl U) U U<|Nv 1 U<|Nq (ks U (by omega)) U<|Na (kC U (Pr)) (.inl U) U ?_;iterate 2 refine Nq (kq U) U ?_
  iterate 11 refine Nk U aZ ?_
  refine Nq (oT U aZ U) U<|Nq (kq U) U ?_;iterate 4 refine Nk U U ?_
  iterate 2 refine Nq (kq U) U ?_
  iterate 5 refine Nk U U ?_
  refine Nq (kq U) U<|CF.done<|Tt U<|Eh U<|Se (Gq (rs:=[]) U List.nodup_nil List.not_mem_nil (fun _ h=>absurd h List.not_mem_nil) U (AD 2) U U (r:=false) ?_ (.inl U));rw[no1 (by unfold cQ;rw[Z2];rfl)]
 |true=>
  have hb:0<=fn/\fn<=(fs.length:Int)-1:=by
   unfold ZZ at Z2;rw[Qf]at Z2;exact⟨dT Z2.1,dT Z2.2⟩
  obtain⟨f0,rfl⟩:∃m:Nat,fn=(m:Int):=⟨fn.natAbs,by omega⟩
  have hm:f0<fs.length:=by omega
  have YK:=A6 A0 hm;have Zb:ZZ (f0:Int) 0 ((fs.length-1:Nat):Int)=true:=by rw[show((fs.length-1:Nat):Int)=(fs.length:Int)-1 by omega];exact Z2
  have b7:cQ fs (f0:Nat) (ps.length:Nat)=decide ((ps.length:Int)=fs[f0].2):=by unfold cQ;rw[Z2,Ga hm];rfl
  have aZ:(!ZZ (f0:Int) 0 ((fs.length-1:Nat):Int))=false:=by rw[Zb];rfl
  refine Eh U<|BT (D6 (fun _:Unit=>([(2,.Z 0 0),(3,.Z 1 0),(4,.Z 2 0)],Y9 3 0 [] [(0,some (.J [Cp Cq 2 cs,Cp Cq 2 fs] 40 false)),(1,some (.J [.int .i64 (f0:Nat),Cs ps,.int .i64 rhs.op,.int .i64 rhs.n,Cs rhs.u,.int .i64 vs] 115 false)),(2,some (.J [.bool false] 4 false))]))
   (fun _=>(cQ fs (f0:Nat) (ps.length:Nat)&&ZZ vs 0 20&&CQ cs fs rhs)=true) ?_ ?_)
  .have fin:(cQ fs (f0:Nat) (ps.length:Nat)&&ZZ vs 0 20&&CQ cs fs rhs)=false->false=ni cs fs ⟨(f0:Nat),ps,rhs,vs⟩:=fun h=>(no1 h).symm;cases vh:CQ cs fs rhs
   .rw[vh]at cq fin;have cq:dX 56 [.agg [Cp Cq 2 cs,Cp Cq 2 fs],.agg [.int .i64 rhs.op,.int .i64 rhs.n,Cs rhs.u]]=some (.int .i64 2):=cq;focus
     refine Af (by kernel_rfl)<|Nv 1 U<|Ad U GM Eo U U U (by kernel_rfl) (.inl U) U U<|Nv 1 U<|Ad U EC E9 U U U (by kernel_rfl) (.inl U) U U<|Nv 1 U<|Nq (Aq (b:=1) U aP U U (by omega)) U<|Na (kC U (Pr)) (.inl U) U ?_;iterate 2 refine Nq (kq U) U ?_
     refine Ng U aZ (kq U)<|Ad U Ep En U U U (by kernel_rfl) (AB U U U U aZ) U U ?_;iterate 2 refine Ng U aZ (kq U) ?_
     refine Ad U EC E9 U U U (by kernel_rfl) (AB U U U U aZ) U U<|Ng U aZ (kq U)<|Ad U GM Eo U U U (by kernel_rfl) (AB U U U U aZ) U U<|Ng U aZ (kv U YK) ?_;iterate 3 refine Ng U aZ (kq U) ?_
     refine Nq (oF U aZ U) U<|Nq (kq U) U<|Db U (fun g1=>?_) (fun g1=>?_);have h1:=nT g1;refine Nw U<|Tt U<|Eh U ?_;rotate_left;have h1:=nF g1;refine Nv 1 U<|Ad U GM Eo U U U (by kernel_rfl) (gG U) U U<|Na (kC U (Pr)) (gG U) U<|Nv 3 U<|Db U (fun g2=>?_) (fun g2=>?_);have h2:=sv g2;refine Nw U<|Tt U<|Eh U ?_;rotate_left;have h2:=sw g2;refine A9 U Qs Oe U U (Qc U) (by kernel_rfl) (gG U) U U<|Nv 1 U<|A9 U NN Ic U U (Qc U) (by kernel_rfl) (gG U) U U<|Na (kC U (cq)) (gG U) U<|Nw U<|Tt U<|Eh U ?_;rotate_left
    all_goals exact Se (Gq (rs:=[]) rfl List.nodup_nil List.not_mem_nil (fun _ h=>absurd h List.not_mem_nil) rfl (AD 2) rfl rfl (r:=false) (fin (by simp)) (.inl rfl))
   .rw[vh]at cq fin;have cq:dX 56 [.agg [Cp Cq 2 cs,Cp Cq 2 fs],.agg [.int .i64 rhs.op,.int .i64 rhs.n,Cs rhs.u]]=some (.int .i64 0):=cq;focus
     refine Af (by kernel_rfl)<|Nv 1 U<|Ad U GM Eo U U U (by kernel_rfl) (.inl U) U U<|Nv 1 U<|Ad U EC E9 U U U (by kernel_rfl) (.inl U) U U<|Nv 1 U<|Nq (Aq (b:=1) U aP U U (by omega)) U<|Na (kC U (Pr)) (.inl U) U ?_;iterate 2 refine Nq (kq U) U ?_
     refine Ng U aZ (kq U)<|Ad U Ep En U U U (by kernel_rfl) (AB U U U U aZ) U U ?_;iterate 2 refine Ng U aZ (kq U) ?_
     refine Ad U EC E9 U U U (by kernel_rfl) (AB U U U U aZ) U U<|Ng U aZ (kq U)<|Ad U GM Eo U U U (by kernel_rfl) (AB U U U U aZ) U U<|Ng U aZ (kv U YK) ?_;iterate 3 refine Ng U aZ (kq U) ?_
     refine Nq (oF U aZ U) U<|Nq (kq U) U<|Db U (fun g1=>?_) (fun g1=>?_);have h1:=nT g1;refine Nw U<|Tt U<|Eh U ?_;rotate_left;have h1:=nF g1;refine Nv 1 U<|Ad U GM Eo U U U (by kernel_rfl) (gG U) U U<|Na (kC U (Pr)) (gG U) U<|Nv 3 U<|Db U (fun g2=>?_) (fun g2=>?_);have h2:=sv g2;refine Nw U<|Tt U<|Eh U ?_;rotate_left;have h2:=sw g2;refine A9 U Qs Oe U U (Qc U) (by kernel_rfl) (gG U) U U<|Nv 1 U<|A9 U NN Ic U U (Qc U) (by kernel_rfl) (gG U) U U<|Na (kC U (cq)) (gG U) U<|Nw U<|Tf U<|Sk ?_;rotate_left
    all_goals first
     |(refine Se (Gq (rs:=[]) rfl List.nodup_nil List.not_mem_nil (fun _ h=>absurd h List.not_mem_nil) rfl (AD 2) rfl rfl (r:=false) (fin ?_) (.inl rfl));rw[b7,Bool.eq_false_iff];simp only[ne_eq,Qf,decide_eq_true_eq];rintro⟨⟨x,y⟩,z⟩;first|contradiction|(rw[show ZZ vs 0 20=false by assumption]at y;cases y))
     |(refine⟨rfl,(),?_,rfl,Ac (by repeat' constructor)⟩;rw[b7];simp only[Qf,decide_eq_true_eq];exact⟨⟨by assumption,by assumption⟩,trivial⟩)
  .rintro _ h0;have ZI:=yes1 h0;rw[Qf,Qf]at h0;have vh:=h0.2;clear Z2 YK Zb aZ b7 no1 yes1 hb cq;dsimp only;obtain⟨er,her⟩:∃er,er=[.int .i64 (f0:Nat),Cs ps,.int .i64 rhs.op,.int .i64 rhs.n,Cs rhs.u,.int .i64 vs]:=⟨_,rfl⟩
   generalize ni cs fs ⟨(f0:Nat),ps,rhs,vs⟩=all at*;refine Es<|Lo (Gh 4 U Od U) U<|Lx U<|Sq<|Eh U<|Sb<|Ai (fun x:Nat×List Int×St=>([(55,.int .i64 (x.1:Nat)),(54,.int .i64 (ps.length:Nat)),(53,Cs ps),(5,.Z 4 0),(4,.Z 2 0),(3,.Z 1 0),(2,.Z 0 0)],x.2.2)) (fun x=>ps.length-x.1)
    (fun x=>x.1<=ps.length/\vg cs fs er x.2.1 x.2.2/\all=dE (CQ cs fs) vs rhs (ps.drop x.1) x.2.1) (0,[],_) ⟨Qo _,⟨AD 0,by rw[her];exact AD 1,AD 2,AD 3,AD 4,Qj _,rfl,rfl⟩,ZI⟩ rfl (Ac (by repeat' constructor)) ?_
   rintro⟨i,m,st⟩ ⟨hi,hB,ha⟩;dsimp only at hi hB ha|-;have bG:∀ {st:St} {m:List Int} {l:Sl},vg cs fs er m st->all=false->Am.e_ 4 l=some (.Z 2 0)->(Ex.Z= .Z\/Ex.Z= .J)/\∃Zy,bS ([]:List kJ) (st.B 2 (some (.J [.bool false] 4 false)))=some Zy/\Zy.c=[]/\Zy.b=0/\∃vs w ks,CO (EK dX) Zy l (Tryz.f118).results.toList=some vs/\CW Zy 0 40 (eT vs) []=some (w,ks)/\Cw 0 40 w=true/\w= .bool all:=fun hB hf hl=>
    Gq (fr:= {nt:=0,defers:=[],Zv:=none,a:=none}) (rs:=[]) rfl List.nodup_nil List.not_mem_nil (fun _ h=>absurd h List.not_mem_nil) hl Bz hB.b ((Bu hB.b).trans hB.i) (r:=false) hf.symm (.inl rfl)
   by_cases h:i<ps.length
   .have YK:=BD h;have ot:Ct ps[i]<=1000:=Nat.le_trans (BH (Ql h)) (by omega);have ow:=oR ps[i] ot;have qG:=oS ps[i] ot;rw[List.drop_eq_getElem_cons h,Ra]at ha;have uT:=Fe ps[i];have cm:(st.A (.J [.int .i64 0,.int .i64 0,.Ca] 47 false)).heap.u st.a=some (.J [.int .i64 0,.int .i64 0,.Ca] 47 false):=A1;have pq:=hB.g;rw[Ak ps[i]]at YK ow qG;focus
     refine Ew U<|Sq<|Cd U (fun h1=>?_) (fun h1=>?_);refine Sk<|Sq<|Sb<|Es<|Lq (kv U YK) U<|Lv 1 U<|Lo (kz U) U<|Ln (kw U cm U) U<|Ld<|Sq ?_;rotate_left;omega
    refine AJ fun s2 qK=>?_;have hB2:vg cs fs er m s2:=by rw[qK];exact hB.u.A pq
    have uR:s2.heap.u st.a=some (.J [.int .i64 ps[i].op,.int .i64 ps[i].n,Cs ps[i].u] 47 false):=by rw[qK];exact Bz
    have mf:st.a<s2.a:=by rw[qK];exact Nat.lt_succ_self _
    clear qK hB cm;have b0:=hB2.f;have b1:=hB2.a;have b2:=hB2.c;have b3:=hB2.d;have b4:=hB2.e;rw[her]at b1;cases htp:CQ cs fs ps[i]with
    |false=>
     have iZ:dX 183 [.agg [Cp Cq 2 cs,Cp Cq 2 fs],.agg [.int .i64 ps[i].op,.int .i64 ps[i].n,Cs ps[i].u]]=some (.O [.bool false,.int .i64 2]):=by
      rw[ow];unfold uu patF;rw[htp];rfl
     refine Es ?_;iterate 2 refine Lo (kL U ‹_› U) U ?_
     refine Lo (kc U (iZ)) U<|Lw U<|Ew U<|Tt U<|Es<|Ln (kw U b2 U) U<|Ld ?_;exact Se (bG hB2 (by rw[ha,if_neg (by unfold okP;rw[htp];exact Bool.false_ne_true)]) U)
    |true=>
     have iZ:dX 183 [.agg [Cp Cq 2 cs,Cp Cq 2 fs],.agg [.int .i64 ps[i].op,.int .i64 ps[i].n,Cs ps[i].u]]=some (.O [.bool (fM ps[i]),.int .i64 0]):=by
      rw[ow];unfold uu patV;rw[htp];rfl
     have nj:dX 184 [.agg [Cp Cq 2 cs,Cp Cq 2 fs],.agg [.int .i64 ps[i].op,.int .i64 ps[i].n,Cs ps[i].u]]=some (.O [az (Cy ps[i]),.int .i64 0]):=qG htp;have hlf:=Jk _ (Hn htp);unfold okP at ha;rw[JK hlf,htp,Bool.true_and]at ha;cases hpb:fM ps[i]with
     |false=>
      rw[hpb]at iZ ha;refine Es ?_;iterate 2 refine Lo (kL U ‹_› U) U ?_
      refine Lo (kc U (iZ)) U<|Lw U<|Ew U<|Tt U<|Es<|Ln (kw U b2 U) U<|Ld ?_;exact Se (bG hB2 (by rw[ha,if_neg Bool.false_ne_true]) U)
     |true=>
      rw[hpb]at iZ ha;rw[if_pos rfl]at ha;generalize Cy ps[i]=l at*;have hlz:=Fc l;refine Es ?_;iterate 2 refine Lo (kL U ‹_› U) U ?_
      refine Lo (kc U (iZ)) U<|Lw U<|Ew U<|Tf U<|Sk<|Es ?_;iterate 2 refine Lo (kL U ‹_› U) U ?_
      refine Lo (kc U (nj)) U<|Lw U<|Es<|qm U<|Lq (kn U hlz) U<|Lw U<|Sb<|Ai (fun x:Nat×List Int×St=>([(79,.int .i64 (x.1:Nat)),(78,.int .i64 (l.length:Nat)),(77,az l),(55,.int .i64 (i:Nat)),(54,.int .i64 (ps.length:Nat)),(53,Cs ps),(5,.Z 4 0),(4,.Z 2 0),(3,.Z 1 0),(2,.Z 0 0)],x.2.2)) (fun x=>l.length-x.1)
       (fun x=>x.1<=l.length/\vg cs fs er x.2.1 x.2.2/\all=nh (CQ cs fs) vs rhs (ps.drop (i+1)) (l.drop x.1) x.2.1) (0,m,s2) ⟨Qo _,hB2,ha⟩ rfl (Ac (by repeat' constructor)) ?_
      clear b0 b1 b2 b3 b4 uR mf ha hB2 iZ nj qG ow;rintro⟨k,mt,st3⟩ ⟨hk,hB3,ha3⟩;dsimp only at hk hB3 ha3|-;by_cases h':k<l.length
      .have hid3:=FA h';have nV:=JX (z:=l[k]) hB3.d;have hmp:=H2 (z:=l[k]) hB3.d;have b0:=hB3.f;have b1:=hB3.a;have b2:=hB3.c;have b4:=hB3.e;rw[her]at b1;rw[List.drop_eq_getElem_cons h',nh]at ha3;focus
        refine Ew U<|Sq<|Cd U (fun h2=>?_) (fun h2=>?_);refine Sk<|Sq<|Sb<|Es<|Lq (kv U hid3) U<|Lw U<|Sq<|Es<|Lo (kl U b4 U) U<|qm U<|Lo (GK U Od z_4 sE U U nV) U<|qm U<|Bb U (fun g3=>?_) (fun g3=>?_);have h3:=dT g3;refine Lw U<|Tt U<|Es<|Ln (kw U b2 U) U<|Ld ?_;rotate_left;have h3:=dF g3;refine Lv 2 U<|Lg U U (kl U b1 U)<|Lw U<|Cb U (fun g4=>?_) (fun g4=>?_);have h4:=dT g4;refine Es<|Ln (kw U b2 U) U<|Ld ?_;rotate_left;have h4:=dF g4;refine Sk<|Sr<|Lo (kl U b4 U) U<|qm U<|Ln (AT (.inl U) Od sE U U U hmp) U<|Ld<|HY<|Lq (TF (b:=1) U aP U U (by omega)) U<|Lw U ?_;rotate_left;omega
       all_goals first
        |exact AA (bG hB3 (by rw[ha3,if_pos (.inl (dT ‹_›))]) rfl)
        |exact AA (bG hB3 (by rw[ha3,if_pos (.inr (by omega))]) rfl)
        |(refine⟨(k+1,ey mt l[k],st3.B 3 (some (.O (Z5 (ey mt l[k])) (ey mt l[k]).length))),⟨h',hB3.B,?_⟩,by show l.length-(k+1)<l.length-k;omega,rfl,rfl,Ac (by repeat' constructor)⟩;rw[ha3,if_neg (fun e=>e.elim (fun e=>dF g3 e) (fun e=>e (by omega)))];exact QD fun x=>by rw[Qk,IY])
      .obtain rfl:k=l.length:=by omega
       rw[List.drop_length,nh]at ha3;focus
        refine Ew U<|Sq<|Cd U (fun h2=>?_) (fun h2=>?_);omega;refine Sx<|Ax U<|Sr<|Lq (ka (b:=1) U (by omega)) U<|Lw U ?_;rotate_left
       exact⟨(i+1,mt,st3),⟨h,hB3,ha3⟩,by show ps.length-(i+1)<ps.length-i;omega,U,U,Ac (by repeat' constructor)⟩
   .obtain rfl:i=ps.length:=by omega
    rw[List.drop_length,dE]at ha;have hrv:=oS rhs hrh vh;rw[e0]at hrv;have nj:dX 184 [.agg [Cp Cq 2 cs,Cp Cq 2 fs],.agg [.int .i64 rhs.op,.int .i64 rhs.n,Cs rhs.u]]=some (.O [az (Cy rhs),.int .i64 0]):=hrv;have uT:=Fe rhs;generalize Cy rhs=free at*;have cm:(st.A (.J [.Ca] 83 false)).heap.u st.a=some (.J [.Ca] 83 false):=A1;have b0:=hB.f;have b1:=hB.a;have b2:=hB.c;have b3:=hB.d;have b4:=hB.e;rw[her]at b1;have pq:=hB.g;have Zc:gm 1 (st.A (.J [.Ca] 83 false)) (az free) (.Z st.a 0)=some ((st.A (.J [.Ca] 83 false)).B st.a (some (.J [az free] 83 false))):=by
     cases free<;>exact DU cm rfl rfl rfl
    focus
     refine Ew U<|Sq<|Cd U (fun h1=>?_) (fun h1=>?_);omega;refine Sx<|Ax U<|Es<|Lo (kL U b0 U) U<|Lv 1 U<|Lo (kL U b1 U) U<|Lo (kc U (nj)) U<|Lv 3 U<|Lo (kz U) U<|Ln (Ek U sz_83 U U Zc) U<|Lw U<|Sq ?_;rotate_left
    refine AJ fun s5 hs5=>?_;obtain⟨F,hF⟩:∃F,F=st.a:=⟨_,rfl⟩
    have hB5:vg cs fs er m s5:=by rw[hs5];exact hB.u.A pq
    have hf5:s5.heap.u F=some (.J [az free] 83 false):=by rw[hs5,hF];exact Bz
    have hn5:s5.a=F+1:=by rw[hs5,hF];rfl
    have hlF:5<=F:=by rw[hF];exact pq
    have c1:=hB5.a;rw[her]at c1;refine CA.at (l':=[(14,.Z F 0),(5,.Z 4 0),(4,.Z 2 0),(3,.Z 1 0),(2,.Z 0 0)]) U (by rw[hF];(refine Am.Ac ?_;repeat (first|exact trivial|refine⟨U,?_⟩))) ?_;clear hs5 Zc cm b0 b1 b2 b3 b4 hB hF nj pq;have htr:=TM rhs s5;rw[e0]at htr;have stop_185:True:=trivial;refine Es<|Lv 1 U<|Lo (kL U c1 U) U<|kf U (CD.mono htr ?_);rintro v s6 ⟨rfl,hs6⟩;refine Ld<|Sb<|AJ fun sB bL=>?_;have bL:sB=s5.A (.J [.int .i64 rhs.op,.int .i64 rhs.n,Cs rhs.u] 47 false):=bL.trans hs6;clear hs6;have hBB:vg cs fs er m sB:=by rw[bL];exact hB5.u
    have gf:sB.heap.u F=some (.J [az free] 83 false):=by rw[bL];exact(Au (by omega)).trans hf5
    have gt:sB.heap.u (F+1)=some (.J (Cf rhs) 47 false):=by rw[bL,<-hn5,e0];exact A1
    have nB:sB.a=F+2:=by rw[bL];show s5.a+1=_;rw[hn5]
    have bB:=hBB.b;have lB:=hBB.i;clear bL hB5 hf5 c1;refine IA U U (by kernel_rfl) fun T mO=>?_;have hT:k8 [(14,.Z F 0),(5,.Z 4 0),(4,.Z 2 0),(3,.Z 1 0)] T:=mO.sub (Ac (by repeat' constructor));clear mO;rw[hn5];refine rs_range hrh hBB.a hBB.c hBB.d hBB.e gf gt nB hlF ha ?_ ?_
    .intro j hj st q1 q2 hC;obtain⟨m,hC⟩:=hC;have C8:=hC.lt;have lJ:=hC.d;rw[List.drop_eq_getElem_cons hj]at lJ;generalize (C9 rhs)[j]=x at*;obtain⟨o,n,ks⟩:=x;rw[AG];refine⟨_,_,_,hC.a,U,hT.put 106 _,?_⟩;have cc:=FY (st:=st) (z:=[.int .i64 0,.int .i64 0,.Ca]) (cs:=[.int .i64 o,.int .i64 n,Cs ks]) (T:=47);have a1:=cc.b;refine Sr<|Lo (kz U) U<|Ln (kw U a1 U) U<|Ld ?_;refine⟨U,_,(cc.e (F+3) (by omega)).trans hC.a,U,?_⟩;refine AJ fun sX bm=>?_;have hR:Rd (F+4) (F+3) st sX:=by rw[bm];exact Rd.begin cc (by omega) q1 q2
     have xo:∀d,d≠F+3->d<st.a->sX.heap.u d=st.heap.u d:=fun d hd h=>by rw[bm];exact(AF.trans (if_neg hd)).trans (cc.e d h)
     have qt:sX.heap.u st.a=some (.J [.int .i64 o,.int .i64 n,Cs ks] 47 false):=by rw[bm];exact(AF.trans (if_neg (by omega))).trans cc.d
     have xl:=(congrArg (fun s=>s.heap.u (F+3)) bm).trans (AF.trans (if_pos rfl));have w1:=(xo 1 (by omega) (by omega)).trans hC.g1;have w2:=(xo 2 (by omega) (by omega)).trans hC.b;have w3:=(xo 3 (by omega) (by omega)).trans hC.g3;have w4:=(xo 4 (by omega) (by omega)).trans hC.g4;have wf:=(xo F (by omega) (by omega)).trans hC.gf;have wd:=(xo (F+2) (by omega) (by omega)).trans hC.c;have nX:st.a<=sX.a:=hR.next;have nV:=JX (z:=n) w3;have hmp:=H2 (z:=n) w3;have hit_186:dX 186 [az free,.int .i64 n]=some (.bool (decide (n∈free))):=hq_186 (by omega);clear bm xo cc a1;have pl:(sX.B 2 (some (.J [.bool false] 4 false))).heap.u (F+3)=sX.heap.u (F+3):=AF.trans (if_neg (by omega))
     have no:all=false->∀fW:dc,RsD F all ((sX.B 2 (some (.J [.bool false] 4 false))).B (F+3) (some (.Z {fW with a:= .done,b:=some .ret}))).a ((sX.B 2 (some (.J [.bool false] 4 false))).B (F+3) (some (.Z {fW with a:= .done,b:=some .ret}))).heap:=fun hf fW=>
      ⟨(AF.trans (if_neg (by omega))).trans (AF.trans (if_pos rfl)),(AF.trans (if_neg (by omega))).trans ((AF.trans (if_neg (by omega))).trans wd),⟨_,AF.trans (if_pos rfl),rfl,rfl⟩,hf⟩
     have hRn:∀fW:Option Cv,Rd (F+4) (F+3) st ((sX.B 2 (some (.J [.bool false] 4 false))).B (F+3) fW):=fun _=>(hR.put (by omega)).put (by omega);have ur:∀fW:Option Cv,Rd (F+4) (F+3) st (sX.B (F+3) fW):=fun _=>hR.put (by omega);have hRm:∀fW:Option Cv,Rd (F+4) (F+3) st ((sX.B 3 (some (.O (Z5 (ey m n)) (ey m n).length))).B (F+3) fW):=fun _=>(hR.put (by omega)).put (by omega);have lJ:all=if o=1 then(if n<vs then dC vs free ((C9 rhs).drop (j+1)) m else false)else if o=8 then(if n<vs/\n∉m/\n∉free then dC vs free ((C9 rhs).drop (j+1)) (n::m)else false)else dC vs free ((C9 rhs).drop (j+1)) m:=lJ
     have same:all=dC vs free ((C9 rhs).drop (j+1)) m->∀fW:dc,fW= {fW with a:= .ready,b:=none}->RsC vs er free (C9 rhs) fW F all (j+1) (sX.B (F+3) (some (.Z fW))).a (sX.B (F+3) (some (.Z fW))).heap:=fun hs fW _=>
      ⟨m,(AF.trans (if_neg (by omega))).trans w1,(AF.trans (if_neg (by omega))).trans w2,(AF.trans (if_neg (by omega))).trans w3,(AF.trans (if_neg (by omega))).trans w4,(AF.trans (if_neg (by omega))).trans wf,(AF.trans (if_neg (by omega))).trans wd,AF.trans (if_pos rfl),hs,hlF,by show F+4<=sX.a;omega⟩
     have more:all=dC vs free ((C9 rhs).drop (j+1)) (ey m n)->∀fW:dc,RsC vs er free (C9 rhs) fW F all (j+1) ((sX.B 3 (some (.O (Z5 (ey m n)) (ey m n).length))).B (F+3) (some (.Z fW))).a ((sX.B 3 (some (.O (Z5 (ey m n)) (ey m n).length))).B (F+3) (some (.Z fW))).heap:=fun hs fW=>
      ⟨ey m n,(AF.trans (if_neg (by omega))).trans ((AF.trans (if_neg (by omega))).trans w1),(AF.trans (if_neg (by omega))).trans ((AF.trans (if_neg (by omega))).trans w2),(AF.trans (if_neg (by omega))).trans (AF.trans (if_pos rfl)),(AF.trans (if_neg (by omega))).trans ((AF.trans (if_neg (by omega))).trans w4),(AF.trans (if_neg (by omega))).trans ((AF.trans (if_neg (by omega))).trans wf),(AF.trans (if_neg (by omega))).trans ((AF.trans (if_neg (by omega))).trans wd),AF.trans (if_pos rfl),hs,hlF,by show F+4<=sX.a;omega⟩
     rw[her]at w1;focus
      refine Sb<|Es<|Lv 1 U<|Lo (kl U qt U) U<|Ld<|Sb<|Ew U<|Cd U (fun h2=>?_) (fun h2=>?_);refine Es<|Lv 1 U<|Lo (kl U qt U) U<|Lv 1 U<|Lo (kl U w1 U) U<|Lw U<|Cd U (fun h3=>?_) (fun h3=>?_);refine Es<|Ln (kw U w2 U) U<|Ld ?_;rotate_left;refine Sk ?_;rotate_left;refine Ew U<|Cd U (fun h4=>?_) (fun h4=>?_);refine Sq<|Es<|Lv 1 U<|Lo (kl U qt U) U<|Lv 1 U<|Lo (kl U w1 U) U<|Lv 2 U<|Bb U (fun g5=>?_) (fun g5=>?_);have h5:=dT g5;refine Lw U<|Tt U<|Es<|Ln (kw U w2 U) U<|Ld ?_;rotate_left;have h5:=dF g5;refine Lg U U (kl U w4 U)<|Lv 1 U<|Lg U U (kl U qt U)<|Lg U U (GK U Od z_4 sE U U nV)<|Lv 2 U<|Bb U (fun g6=>?_) (fun g6=>?_);have h6:=dT g6;refine Lw U<|Tt U<|Es<|Ln (kw U w2 U) U<|Ld ?_;rotate_left;have h6:=dF g6;refine Lg U U (kl U wf U)<|Lv 1 U<|Lg U U (kl U qt U)<|Lg U U (kc U (hit_186))<|Lw U<|Cb U (fun g7=>?_) (fun g7=>?_)
      have h7:=dT g7;refine Es<|Ln (kw U w2 U) U<|Ld ?_;rotate_left;have h7:=dF g7;refine Sk<|HY<|Lo (Bs U U (A4 ag_233 sz_233 w4 U)) U<|Lv 1 U<|Lo (Bs U U (A4 GM Eo qt U)) U<|HU (AT (.inl U) Od sE U U U hmp) U U<|Ld ?_;rotate_left;refine Gi ?_;rotate_left
     all_goals first
      |(refine AA ?_;refine⟨rfl,_,pl.trans xl,?_⟩;refine⟨(hRn _).next,(hRn _).bound,(hRn _).mem,(hRn _).log,(hRn _).ec,(fun h=>by cases h),fun _=>no ?_ _⟩;first|(rw[lJ,if_pos (by assumption),if_neg (by omega)];done)|(rw[lJ,if_neg (by assumption),if_pos (by assumption),if_neg (by rintro⟨a,b,c⟩;first|omega|exact b (of_decide_eq_true (by assumption))|exact c (of_decide_eq_true (by assumption)))];done))
      |(refine⟨rfl,_,xl,?_⟩;refine⟨(ur _).next,(ur _).bound,(ur _).mem,(ur _).log,(ur _).ec,fun _=>same ?_ _ rfl,fun h=>by cases h⟩;first|(rw[lJ,if_pos (by assumption),if_pos (by omega)];done)|(rw[lJ,if_neg (by assumption),if_neg (by assumption)];done))
      |(refine⟨rfl,_,(AF.trans (if_neg (by omega))).trans xl,?_⟩;refine⟨(hRm _).next,(hRm _).bound,(hRm _).mem,(hRm _).log,(hRm _).ec,fun _=>more ?_ _,fun h=>by cases h⟩;rw[lJ,if_neg h2,if_pos h4,if_pos ⟨by omega,dF g6,dF g7⟩];exact Fk fun x=>by rw[Qk,IY])
    .rintro w s3 ⟨e1,e2,e3,e4⟩;have bR:s3.b=0:=e1.trans bB;have lR:s3.c=[]:=List.eq_nil_iff_forall_not_mem.2 fun d hd=>by
      rcases e3 d hd with h|h
      .have h:d∈sB.c:=h;rw[lB]at h;cases h
      .have h:d<sB.b:=h;omega
     clear e1 e2 e3;rw[nB];rcases e4 with hC|hD
     .obtain⟨m,hC⟩:=hC;refine⟨_,hC.a,(fun h=>by cases h),?_⟩;show CA (EK dX) _ _ _ _ _;refine AJ fun sZ tp=>?_;have z2:sZ.heap.u 2=some (.J [.bool false] 4 false):=by rw[tp];exact(AF.trans (if_neg (by omega))).trans hC.b
      have z8:sZ.heap.u (F+2)=some (.G' true):=by rw[tp];exact(AF.trans (if_neg (by omega))).trans hC.c
      have bZ:sZ.b=0:=by rw[tp];exact bR
      have lZ:sZ.c=[]:=by rw[tp];exact(Bu bR).trans lR
      clear tp;refine Es<|Ln (kw U z2 U) U<|Ld<|Se<|Gq (rs:=[F+2]) U (List.nodup_cons.2 ⟨(fun h=>by cases h),List.nodup_nil⟩) (fun h=>by have:=Qp.1 h;omega) (fun q hq=>by rw[Qp.1 hq];exact(AF.trans (if_neg (by omega))).trans z8) U (AF.trans (if_pos U)) bZ ((Bu bZ).trans lZ) ?_ (.inl U);have:=hC.d;rw[List.drop_length]at this;exact this.symm
     .obtain⟨lp,l1,l2,l3⟩:=hD.lp;refine⟨lp,l1,(by rw[l2];exact fun h=>by cases h),?_⟩;rw[l3]
      skip
      exact Gq (rs:=[F+2]) U (List.nodup_cons.2 ⟨(fun h=>by cases h),List.nodup_nil⟩) (fun h=>by have:=Qp.1 h;omega) (fun q hq=>by rw[Qp.1 hq];exact(AF.trans (if_neg (by omega))).trans hD.df) U ((AF.trans (if_neg (by omega))).trans hD.g2) bR ((Bu bR).trans lR) hD.no.symm (.inl U)
abbrev RuC:= {p:(List Ci×List Ci)×bw//(p.1.1.length<=4000/\p.1.2.length<=4000/\(∀q∈p.1.1,q.1.length<=4000)/\∀q∈p.1.2,q.1.length<=4000)/\al p.1.1 p.1.2=true/\C5 p.2.b<=900/\Ct p.2.a<=1000}
def uw (p:RuC):List AV:=[CH p.1.1.1 p.1.1.2,.agg (Yx p.1.2)]
theorem X4 (a b:RuC) (h:uw a=uw b):a=b:=by
 obtain⟨⟨⟨a1,a2⟩,r⟩,_⟩:=a;obtain⟨⟨⟨b1,b2⟩,s⟩,_⟩:=b;simp only[uw,CH,List.cons.injEq,AV.agg.injEq,and_true]at h;obtain⟨⟨h1,h2⟩,h3⟩:=h;obtain rfl:=B8 BP A0 h1;obtain rfl:=B8 BP A0 h2;obtain rfl:=K3 _ _ h3;rfl
noncomputable def gL:=CX dX 118 uw (fun p=> .bool (c8 p.1.1.1 p.1.1.2 p.1.2))
theorem hq_118 {cs fs:List Ci} {r:bw} (h1:cs.length<=4000/\fs.length<=4000/\(∀q∈cs,q.1.length<=4000)/\∀q∈fs,q.1.length<=4000) (h2:al cs fs=true) (h3:C5 r.b<=900) (h4:Ct r.a<=1000):gL 118 [CH cs fs,.agg (Yx r)]=some (.bool (c8 cs fs r)):=
 Aj (enc:=uw) (fun a b h=>by rw[X4 a b h]) ⟨((cs,fs),r),h1,h2,h3,h4⟩
theorem pall40 (h:CM Tryz.prog 8 [] (.bool true)):Co Tryz.prog gn gL:=
 Al Aw Ag (pall39 h) (fun p:RuC=>by
  have:=frule_to p.1.1.1 p.1.1.2 p.1.2 p.2.1.1 p.2.1.2.1 p.2.1.2.2.1 p.2.1.2.2.2 p.2.2.1 p.2.2.2.1 p.2.2.2.2;rwa[rule_eq]at this) (fun _=>rfl) (fun _=>rfl)
def Old (s s':St):Prop:=s.a<=s'.a/\∀d,d<s.a->s'.heap.u d=s.heap.u d
theorem Old.trans {a b c:St} (h:Old a b) (g:Old b c):Old a c:=⟨Nat.le_trans h.1 g.1,fun d hd=>(g.2 d (Nat.lt_of_lt_of_le hd h.1)).trans (h.2 d hd)⟩
theorem Old.alloc {s:St} {o:Cv}:Old s.u (s.u.A o):=⟨Nat.le_succ _,fun _ h=>Au h⟩
def idxP {α:Type} (p:α->Bool) (l:List α):Int:=if u3 (fun x=> !p x) l<l.length then((u3 (fun x=> !p x) l:Nat):Int)else-1
theorem idxP_any {α:Type} {p:α->Bool} {l:List α}:decide (0<=idxP p l)=l.any p:=by
 rw[Vq];unfold idxP;by_cases h:u3 (fun x=> !p x) l<l.length
 .rw[if_pos h,decide_eq_true h,decide_eq_true (by omega)]
 .rw[if_neg h,decide_eq_false h];rfl
theorem any_all {α:Type} {p:α->Bool} {l:List α}:(!l.any fun x=> !p x)=l.all p:=by
 induction l with
 |nil=>rfl
 |cons a l ih=>rw[List.any_cons,List.all_cons,<-ih];cases p a<;>rfl
section
variable {g : FuncId} {cap : List AV} {p : bw -> Bool} {P : bw -> Prop} {st : St}
theorem XN (hb:CI (EK gL) g=true) {bi:Nat} (sq:bi<st.a) (gi:st.heap.u bi=some (.J [.G' (.func g) [] cap] 186 false)) (bu:∀s',Old st s'->∀x,P x->Cj (EK gL) g (.agg (Yx x)::cap) s' (.bool (p x))) (x:bw) (hx:P x):
 Cj (EK gL) 182 [.agg (Yx x),.Z bi 0] st (.bool (!p x)):=by
 refine Cj.flat (fn:=Tryz.f182) U U U U U U (fun _ _=>rfl) (fun _=>rfl) ?_;have g1:(st.u.A (.J (Yx x) 115 false)).heap.u bi=some (.J [.G' (.func g) [] cap] 186 false):=(Au sq).trans gi;have g2:(st.u.A (.J (Yx x) 115 false)).heap.u st.a=some (.J (Yx x) 115 false):=A1;have hc:=bu (st.u.A (.J (Yx x) 115 false)) Old.alloc x hx;unfold Yx at g1 g2 hc|-;refine Es<|Lo (ZU.box U U U) U<|Lw U<|Es<|Lo (kl U g1 U) U<|Lo (kL U g2 U) U<|Lo (F8 U U U hb U hc) U<|Lw U ?_;exact Se ⟨.inl U,U,U,_,Aa U U,U⟩
theorem WM {h:FuncId} {vi:List AV} {q:bw->Bool} (hb:CI (EK gL) h=true) (bu:∀s',s'.heap=st.heap->s'.a=st.a->∀x,P x->Cj (EK gL) h (.agg (Yx x)::vi) s' (.bool (q x))) (l:List bw) (hn:l.length<=4000) (hP:∀x∈l,P x):
 Cj (EK gL) 233 [Cp Yx 6 l,.G' (.func h) [] vi] st (.int .i64 (idxP q l)):=by
 refine Cj.flat (fn:=Tryz.f233) U U U U U U (fun _ _=>rfl) (fun _=>rfl) ?_;have hle:=twA_le (fun x=> !q x) l;refine Ew U<|Sq<|Ew U<|Sb<|Ai (fun i:Nat=>([(8,.int .i64 (i:Nat)),(7,.int .i64 (l.length:Nat)),(1,.G' (.func h) [] vi),(0,Cp Yx 6 l)],st.u)) (fun i=>l.length-i) (fun i=>i<=u3 (fun x=> !q x) l) 0 (Qo _) U (Ac (by trivial)) ?_;intro i hi;dsimp only at hi|-;by_cases h:i<l.length
 .have hp:=A6 HJ h;have hs:=RZ (p:=fun x=> !q x) hi (Qi h);have hc:=bu st.u rfl rfl l[i] (hP _ (Ql h));unfold Yx at hp hc;focus
   refine Ew U<|Sq<|Cd U (fun h1=>?_) (fun h1=>?_);refine Sk<|Sq<|Sb<|Ew U<|Es<|Lv 3 U<|Lq (kv U hp) U<|Lv 1 U ?_;rotate_left;omega
  refine Lo (F8 U U U hb U hc) U ?_;cases hq:q l[i]with
  |true=>
   refine Ld<|Tt U<|Ew U<|Se ⟨.inl U,U,U,_,Aa U U,?_⟩;have e:i=u3 (fun x=> !q x) l:=by
    rw[hq]at hs;have:=mt hs.2 (by simp);omega
   unfold idxP;rw[<-e,if_pos h];rfl
  |false=>
   refine Ld<|Tf U<|Sk<|Sr<|Lq (ka (b:=1) U (by omega)) U<|Lw U ?_;refine⟨i+1,?_,by show l.length-(i+1)<l.length-i;omega,U,U,Ac (by trivial)⟩;rw[hq]at hs;have:=hs.1 rfl;omega
 .focus
   refine Ew U<|Sq<|Cd U (fun h1=>?_) (fun h1=>?_);omega;refine Sx<|Ax U<|Ew U ?_;rotate_left
  refine Se ⟨.inl U,U,U,_,Aa U U,?_⟩;unfold idxP;rw[if_neg (by omega)];rfl
theorem PS {h:FuncId} {vi:List AV} {q:bw->Bool} (hb:CI (EK gL) h=true) (bu:∀s',s'.heap=st.heap->s'.a=st.a->∀x,P x->Cj (EK gL) h (.agg (Yx x)::vi) s' (.bool (q x))) (l:List bw) (hn:l.length<=4000) (hP:∀x∈l,P x):
 Cj (EK gL) 181 [Cp Yx 6 l,.G' (.func h) [] vi] st (.bool (l.any q)):=by
 refine Cj.flat (fn:=Tryz.f181) U U U U U U (fun _ _=>rfl) (fun _=>rfl) ?_;have hi:=WM (st:=st.u) hb (fun s' h1 h2 x hx=>bu s' h1 h2 x hx) l hn hP;refine Ew U<|Es<|Lv 2 U<|Lo (Dq U U U U hi) U<|Lw U<|Se ⟨.inl U,U,U,_,Aa U U,?_⟩;rw[<-idxP_any];rfl
theorem Xt (hb:CI (EK gL) g=true) (bu:∀s',Old st s'->∀x,P x->Cj (EK gL) g (.agg (Yx x)::cap) s' (.bool (p x))) (l:List bw) (hn:l.length<=4000) (hP:∀x∈l,P x):
 Cj (EK gL) 116 [Cp Yx 6 l,.G' (.func g) [] cap] st (.bool (l.all p)):=by
 refine Cj.flat (fn:=Tryz.f116) U U U U U U (fun _ _=>rfl) (fun _=>rfl) ?_;have hc:=PS (st:=st.u.A (.J [.G' (.func g) [] cap] 186 false)) (h:=182) (vi:=[.Z st.a 0]) (P:=P) (q:=fun x=> !p x) U (fun s' h1 h2 x hx=>
  XN hb (by rw[h2];exact Nat.lt_succ_self _) (by rw[h1];exact A1) (fun s2 h3 x hx=>bu s2 (Old.trans ⟨by rw[h2];exact Nat.le_succ _,fun d hd=>by rw[h1];exact Au hd⟩ h3) x hx) x hx) l hn hP
 rw[<-any_all];refine Es<|Lo (ZU.box U U U) U<|Lw U<|Es<|Lv 2 U<|Lo (Dq U U U U hc) U<|Lw U ?_;exact Se ⟨.inl U,U,U,_,Aa U U,U⟩
end
theorem progC_to {cs fs:List Ci} {rs:List bw} {st:St} (hA:cs.length<=4000/\fs.length<=4000/\(∀q∈cs,q.1.length<=4000)/\∀q∈fs,q.1.length<=4000) (kG:al cs fs=true) (h0:0<st.a) (g0:st.heap.u 0=some (.J [Cp Cq 2 cs,Cp Cq 2 fs,Cp Yx 6 rs] 43 false)) (x:bw) (hx:C5 x.b<=900/\Ct x.a<=1000):
 Cj (EK gL) 117 [.agg (Yx x),.Z 0 0] st (.bool (c8 cs fs x)):=by
 refine Cj.flat (fn:=Tryz.f117) U U U U U U (fun _ _=>rfl) (fun _=>rfl) ?_;have g1:(st.u.A (.J (Yx x) 115 false)).heap.u 0=some (.J [Cp Cq 2 cs,Cp Cq 2 fs,Cp Yx 6 rs] 43 false):=(Au h0).trans g0;have g2:(st.u.A (.J (Yx x) 115 false)).heap.u st.a=some (.J (Yx x) 115 false):=A1;have wx:gL 118 [.agg [Cp Cq 2 cs,Cp Cq 2 fs],.agg (Yx x)]=some (.bool (c8 cs fs x)):=hq_118 hA kG hx.1 hx.2;unfold Yx at g1 g2 wx|-;refine Es<|Lo (ZU.box U U U) U<|Lw U<|Es<|Lv 1 U ?_;iterate 2 refine Lo (kL U ‹_› U) U ?_
 refine Lo (kc U (wx)) U<|Lw U ?_;exact Se ⟨.inl U,U,U,_,Aa U U,U⟩
set_option maxRecDepth 4000 in
theorem fprog_to (p:ZM) (h:dD p):Cj (EK gL) 55 [.agg (Zf p)] S0 (.bool (ax p)):=by
 obtain⟨cs,fs,rs⟩:=p;obtain⟨⟨n1,n2,l1,l2⟩,hl,hr⟩:=h;dsimp only at n1 n2 l1 l2 hl hr;have hA:cs.length<=4000/\fs.length<=4000/\(∀q∈cs,q.1.length<=4000)/\∀q∈fs,q.1.length<=4000:=⟨by omega,by omega,fun q h=>Nat.le_trans (n1 q h) (by decide),fun q h=>Nat.le_trans (n2 q h) (by decide)⟩
 unfold ax Zf;dsimp only;have hck:=Pq hA.2.2.1 hA.2.2.2;refine As U ?_;cases kG:al cs fs with
 |false=>
  have dz:gL 115 [.agg [Cp Cq 2 cs,Cp Cq 2 fs]]=some (.int .i64 2):=by
   rw[kG]at hck;exact hck
  refine Eh U<|Es<|Ls 2 U<|Lo (kc U (dz)) U<|Lw U<|Se (Er U ?_);exact Ab U
 |true=>
  have dz:gL 115 [.agg [Cp Cq 2 cs,Cp Cq 2 fs]]=some (.int .i64 0):=by
   rw[kG]at hck;exact hck
  have e0:(Y9 1 0 [] [(0,some (.J [Cp Cq 2 cs,Cp Cq 2 fs,Cp Yx 6 rs] 43 false))]).heap.u 0=some (.J [Cp Cq 2 cs,Cp Cq 2 fs,Cp Yx 6 rs] 43 false):=AD 0;have run_116:Cj (EK gL) 116 [Cp Yx 6 rs,.G' (.func 117) [] [.Z 0 0]] (Y9 1 0 [] [(0,some (.J [Cp Cq 2 cs,Cp Cq 2 fs,Cp Yx 6 rs] 43 false))]) (.bool (rs.all (c8 cs fs))):=
   Xt (P:=fun r=>C5 r.b<=900/\Ct r.a<=1000) U (fun s' ho x hx=>progC_to hA kG (Nat.lt_of_lt_of_le Nat.one_pos ho.1) ((ho.2 0 Nat.one_pos).trans e0) x hx) rs (by omega) hr
  focus
   refine Eh U<|Es<|Ls 2 U<|Lo (kc U (dz)) U<|Ls 8 U<|Bd U (fun h1=>?_) (fun h1=>?_);refine Ls 3 U<|Lg U U (Dq U U U U (run_116))<|Lw U<|Se (Er U<|Ab ?_);rotate_left;refine Lw U<|Se (Er U<|Ab ?_);rotate_left
  .rw[decide_eq_true (by omega)];rfl
  .rw[decide_eq_false (by omega)];rfl
noncomputable def KP41:=CX gL 55 rB (fun p=> .bool (ax p.1))
theorem hq_55 {p:ZM} (h:dD p):KP41 55 [.agg (Zf p)]=some (.bool (ax p)):=Aj (enc:=rB) (fun a b h=>by rw[PI a b h]) ⟨p,h⟩
theorem pall41 (h:CM Tryz.prog 8 [] (.bool true)):Co Tryz.prog gn KP41:=Al Aw Ag (pall40 h) (fun p:SmP=>fprog_to p.1 p.2) (fun _=>rfl) (fun _=>rfl)
end Go.Proofs.YtfhimfcbphepeaaGreatDoor.Ty
