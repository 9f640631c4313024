/- Types: the document reads a type; printing. -/
import Derived.Test.YtfhimfcbphepeaaGreatDoorCdA
import Derived.Test.YtfhimfcbphepeaaGreatDoorCdE
set_option linter.unusedSectionVars false
set_option linter.unusedVariables false
set_option linter.unusedSimpArgs false
open Go Am
namespace Go.Proofs.YtfhimfcbphepeaaGreatDoor.Ty
theorem S8 {ts:List XX} {p:Nat} {s:St} {i:Nat} (h:DR s p ts i true) (hb:s.bound<=s.next) {R RP:AV->St->Prop} (hB:∀a i' v s',mF s' v a s.next->Ck s s' p->DR s' p ts i' true->Wr s' p->R v s'):
 CE (EK LF) 99 [.ptr p 0] s R RP:=by
 refine Ar U ?_;have hE:s.enter.bound<=s.enter.next:=Qj _;have h0:DR s.enter p ts i true:=⟨h.at_,h.lt,h.le,h.small⟩
 obtain⟨sA,Yr⟩:∃x,x=s.enter.alloc (.cells WY 96 false):=⟨_,rfl⟩
 have gA:Ck s.enter sA p:=by rw[Yr];exact Ck.alloc hE
 have rA:DR sA p ts i true:=h0.of (by rw[Yr];exact(Ao h.lt).trans h0.at_) (by rw[Yr];exact Nat.le_succ _) h.le;have cA:sA.heap.get s.next=some (.cells WY 96 false):=by rw[Yr];exact A4
 have nA:sA.next=s.next+1:=by rw[Yr];rfl
 have Co:p<s.next:=h.lt;have fe:=gA.Y2 hE;have fin:∀(st:St) (a:Sh) (kv:AV) (k:Nat),Ck s.enter st p->DR st p ts k true->Wr st p->Yh st kv a.kids->(∀d,C6 d kv=true->s.next+1<=d)->s.next<st.next->
  ∃cr,leave (EK LF) 99 s (.agg [.int .i64 (a.op:Nat),.str a.text,.int .i64 0,kv]) (st.put s.next (some (.cells [.int .i64 (a.op:Nat),.str a.text,.int .i64 0,kv] 96 false)))=some cr/\match cr with
   | .same v=>R v s
   | .val v s'=>R v s'
   | .WR _ _=>False:=by
  intro st a kv k g r w hk fB lM;have g2:Ck s.enter (st.put s.next (some (.cells [.int .i64 (a.op:Nat),.str a.text,.int .i64 0,kv] 96 false))) p:=g.XD (Qj _) hE;have hp:mF (s.back (st.put s.next (some (.cells [.int .i64 (a.op:Nat),.str a.text,.int .i64 0,kv] 96 false)))) (.agg [.int .i64 (a.op:Nat),.str a.text,.int .i64 0,kv]) a s.next:=
   ⟨kv,rfl,hk.Wd (Qj _) fun d hd=>by show(st.put s.next _).heap.get d=_;rw[Aw,if_neg (by have:=fB d hd;omega)],fun d hd=>by have:=fB d hd;omega⟩
  have r2:DR (s.back (st.put s.next (some (.cells [.int .i64 (a.op:Nat),.str a.text,.int .i64 0,kv] 96 false)))) p ts k true:=r.of (by show(st.put s.next _).heap.get p=_;rw[Aw,if_neg (by omega)];exact r.at_) (Qj _) r.le;have w2:Wr (st.put s.next (some (.cells [.int .i64 (a.op:Nat),.str a.text,.int .i64 0,kv] 96 false))) p:=w.more Ct.put;have xz:p<(st.put s.next (some (.cells [.int .i64 (a.op:Nat),.str a.text,.int .i64 0,kv] 96 false))).bound:=by rw[g2.Wh.bound];exact Co
  exact⟨_,Bc U (w2.log xz),hB a k _ _ hp (g2.back hb) r2 (w2.back xz)⟩
 refine Es<|Lo (kz U) U<|Ld<|Sq ?_;refine Aq fun sX WZ=>?_;obtain rfl:sX=sA:=WZ.trans Yr.symm;clear WZ Yr;refine Es<|qm U ?_;refine Af U U (by kernel_rfl) U U U U (Fc rA fe (fun h=>by cases h) fun hf=>?_);have bD:Cc (EK LF) 169 [.ptr p 0,.int .i64 (1:Nat)] sX (.bool false):=MC rA (k:=1) (by decide);refine Ld<|Tf U<|Sk<|Sq<|Es<|qm U ?_;refine Lo (Av U U (by kernel_rfl) U (bD)) U<|Ld<|Tf U<|Sk<|Es<|qm U ?_;refine Af U U (by kernel_rfl) U U U U (J0 (k:=2) rA fe (by decide) (fun h=>by cases h) fun hf s1 g1 r1 w1=>?_);have cc1:s1.heap.get s.next=some (.cells WY 96 false):=(g1.Wh.heap _ (by omega) (by omega)).trans cA;have lG:=g1.Wh.next;refine Lw U<|Es<|Lv 2 U ?_;refine Af U U (by kernel_rfl) U U U U (Oy (GN ts p 0) r1 (g1.Y2 fe) (fun h=>by cases h) (fun h=>by cases h) fun _ l i' v s2 g2 r2 hL fB=>?_)
 have cc2:s2.heap.get s.next=some (.cells WY 96 false):=(g2.Wh.heap _ (by omega) (by omega)).trans cc1;have hn2:=g2.Wh.next;have Yg:=fin s2 (.mk 101 [] l) v i' (gA.trans (g1.trans g2 fe) hE) r2 (w1.more g2.ax) hL (fun d hd=>by have:=fB d hd;omega) (by omega);rcases hL.forms with rfl|⟨b2,n2,rfl⟩|⟨cs2,n2,rfl⟩
 .refine Lv 1 U ?_;refine Ln (kw U cc2 U) U<|Ld ?_;exact Se (Al ⟨.inl U,_,U,_,A5 U Io EH (Aw.trans (if_pos U)) (Qj _) U,Yg⟩)
 .refine Lv 1 U ?_;refine Ln (kw U cc2 U) U<|Ld ?_;exact Se (Al ⟨.inl U,_,U,_,A5 U Io EH (Aw.trans (if_pos U)) (Qj _) U,Yg⟩)
 .refine Lv 1 U ?_;refine Ln (kw U cc2 U) U<|Ld ?_;exact Se (Al ⟨.inl U,_,U,_,A5 U Io EH (Aw.trans (if_pos U)) (Qj _) U,Yg⟩)
theorem Uw {ts:List XX} {p:Nat} {s:St} {i:Nat} (h:DR s p ts i true) (hb:s.bound<=s.next) {R RP:AV->St->Prop} (hB:∀t i' s',Ck s s' p->DR s' p ts i' true->R (.agg (WH t)) s'):
 CE (EK LF) 40 [.ptr p 0] s R RP:=by
 refine Ar U ?_;have hE:s.enter.bound<=s.enter.next:=Qj _;have h0:DR s.enter p ts i true:=⟨h.at_,h.lt,h.le,h.small⟩
 obtain⟨sA,Yr⟩:∃x,x=s.enter.alloc (.cells WY 96 false):=⟨_,rfl⟩
 have gA:Ck s.enter sA p:=by rw[Yr];exact Ck.alloc hE
 have rA:DR sA p ts i true:=h0.of (by rw[Yr];exact(Ao h.lt).trans h0.at_) (by rw[Yr];exact Nat.le_succ _) h.le;have cA:sA.heap.get s.next=some (.cells WY 96 false):=by rw[Yr];exact A4
 have nA:sA.next=s.next+1:=by rw[Yr];rfl
 have Co:p<s.next:=h.lt;have fe:=gA.Y2 hE;refine Es<|Lo (kz U) U<|Ld ?_;refine Aq fun sX WZ=>?_;obtain rfl:sX=sA:=WZ.trans Yr.symm;clear WZ Yr;refine Es<|qm U ?_;refine Af U U (by kernel_rfl) U U U U (S8 rA fe fun a j v s1 ⟨kv,hv,hk,fB⟩ g1 r1 w1=>?_);subst hv;have c1:s1.heap.get s.next=some (.cells WY 96 false):=(g1.Wh.heap _ (by omega) (by omega)).trans cA;have lG:=g1.Wh.next;have hkv:=hk.form;obtain⟨a1,a2,a3,a4,a5,a6,a7⟩:=Bg (st:=s1) (z:=WY) (cs:=[.int .i64 (a.op:Nat),.str a.text,.int .i64 0,kv]) (T:=96);refine Lo (kz U) U<|Ln (kw U a1 U) U<|Ld<|Sq ?_;refine Aq fun sB W6=>?_;have gB:Ck s.enter sB p:=by rw[W6];exact(gA.trans g1 hE).trans (Ck.own ((gA.trans g1 hE).Y2 hE) rfl) hE
 have rB:DR sB p ts j true:=r1.of (by rw[W6];exact(a4 _ r1.lt).trans r1.at_) (by rw[W6];exact Nat.le_succ _) r1.le;have cB:sB.heap.get s.next=some (.cells WY 96 false):=by rw[W6];exact(a4 _ (by omega)).trans c1
 have tB:sB.heap.get s1.next=some (.cells [.int .i64 (a.op:Nat),.str a.text,.int .i64 0,kv] 96 false):=by rw[W6];exact a2
 have nB:sB.next=s1.next+1:=by rw[W6];exact a7
 have wB:Wr sB p:=by rw[W6];exact w1.more (Ck.own (p:=p) ((gA.trans g1 hE).Y2 hE) rfl).ax
 have kB:Yh sB kv a.kids:=hk.Wd (by omega) fun d hd=>by rw[W6];exact a4 _ (hk.own hd)
 clear a1 a2 a3 a4 a5 a6 a7 W6;have hbB:=gB.Y2 hE;refine Es<|qm U ?_;refine Af U U (by kernel_rfl) U U U U (Fc rB hbB (fun h=>by cases h) fun hf=>?_);refine Ld<|Tf U<|Sk<|Es<|Lo (kL U tB U) U<|Ln (kw U cB U) U<|Ld ?_;have rP:∀o,DR (sB.put s.next o) p ts j true:=fun o=>rB.of (by rw[Aw,if_neg (show¬p=s.next by omega)];exact rB.at_) (Qj _) rB.le;have kC:∀o,Yh (sB.put s.next o) kv a.kids:=fun o=>kB.Wd (Qj _) fun d hd=>by rw[Aw,if_neg (by have:=fB d hd;omega)]
 obtain⟨k2,hz,jP⟩:=LP (kC (some (.cells [.int .i64 (a.op:Nat),.str a.text,.int .i64 0,kv] 96 false))) 37 [];have gP:=gB.XD (b:=s.next) (o:=some (.cells [.int .i64 (a.op:Nat),.str a.text,.int .i64 0,kv] 96 false)) (Qj _) hE;have gD:∀b∈k2++[],s.next<=b:=fun b hb=>by have:=fB b (jP b (by simpa using hb));omega
 refine Se (Al ⟨.inl U,_,rfl,_,A5 U Io EH (Aw.trans (if_pos U)) (Qj _) U,_,Jj U (Wr.log (wB.more Ct.put) (by show p<sB.bound;rw[gB.Wh.bound];exact Co)) (w:= .agg (WH a)) (ks:=k2++[]) ?_ (fun b hb=>by show sB.bound<=b;rw[gB.Wh.bound];exact gD b hb),?_⟩)
 .show((Cs.many (Cs (sB.put s.next (some (.cells [.int .i64 (a.op:Nat),.str a.text,.int .i64 0,kv] 96 false))) 0 39) [.int .i64 (a.op:Nat),.str a.text,.int .i64 0,kv] []).bind _)=_;rw[hz];rfl
 .have r2:=(rP (some (.cells [.int .i64 (a.op:Nat),.str a.text,.int .i64 0,kv] 96 false))).kill gD Co;exact hB a j _ ((gP.kill gD hE).back hb) ⟨r2.at_,r2.lt,r2.le,r2.small⟩
theorem Ni (w:List UInt8):∀(f a n:Nat),(scan w f a).2=some n->n<w.length
 |0,_,_,h=>by cases h
 |f+1,a,n,h=>by
  unfold scan at h;split at h
  .next h1=>
   split at h
   .cases h;exact h1
   .exact Ni w f _ n h
  .cases h
theorem OZ {ds:List DT} {t:KT} (hd:ds.length<=1000) {s:St}:Cc (EK LF) 42 [We ds,.agg (W4 t)] s (.bool (CG ds 20 t)):=by
 have sn:LF 95 [We ds,.agg (W4 t),.int .i64 20]=some (.bool (CG ds 20 t)):=hqb_95 hd;rw[BH]at sn|-;refine Cc.flat (fn:=Tryz.f42) U (by kernel_rfl) U U U U (fun _ _=>rfl) (fun _=>rfl) ?_;have b1:(s.enter.alloc (.cells [.int .i64 t.op,.int .i64 t.n,CJ (CS t.kids) t.kids.length 3] 26 false)).heap.get s.next=some (.cells [.int .i64 t.op,.int .i64 t.n,CJ (CS t.kids) t.kids.length 3] 26 false):=A4;refine Es<|Lo (AO U U U) U<|Lw U<|Es<|qm U<|Lo (kL U b1 U) U ?_;refine Lo (kc U (sn)) U<|Lw U ?_;exact Se ⟨.inl U,U,U,_,Aa U U,U⟩
theorem Vq {ts:List XX} {p:Nat} {s:St} {b:Bool} (h:DR s p ts 0 b) (hb:s.bound<=s.next) {R RP:AV->St->Prop}
 (hR:∀t j b' s',Ck s s' p->DR s' p ts j b'->(b=true->b'=true)->(b=false->(b'=false->Xx ts (ts.length+1) 0=some (t,j))/\(b'=true->Xx ts (ts.length+1) 0=none))->R (.agg (WH t)) s'):
 CE (EK LF) 40 [.ptr p 0] s R RP:=by
 cases b with
 |true=>exact Uw h hb fun t i' s' g r=>hR t i' true s' g r (fun _=>rfl) fun h=>by cases h
 |false=>exact GN ts p (ts.length+1) s 0 R RP h hb (by omega) (fun a j e s' g r=>hR a j false s' g r (fun h=>by cases h) fun _=>⟨fun _=>e,fun h=>by cases h⟩) fun e t i' s' g r=>hR t i' true s' g r (fun h=>by cases h) fun _=>⟨(fun h=>by cases h),fun _=>e⟩
set_option maxHeartbeats 4000000 in
theorem xM (ds:List DT) (w:List UInt8) (hs:CD ds=true) (hw:w.length<=4000):Cc (EK LF) 10 [We ds,.str w] S0 (resTy (Z1 ds w)):=by
 have iE:=(Da hs).1;have ow:LF 38 [We ds]=some (.bool (Xr ds)):=hq_38 hs;obtain⟨V,hV⟩:∃V,V=ln (Cv w).1:=⟨_,rfl⟩
 have hit_39:LF 39 [.str w]=some (.tuple [V,.int .i64 (((Cv w).2.getD w.length:Nat):Int)]):=by rw[hV];exact hq_39 hw
 refine As U ?_;unfold Z1;have fO:=ts_ok w;have hlen:=Gb w;have WT:=Ni w (w.length+1) (Ci false w);generalize hE:Cv w=S at*;obtain⟨ts,e⟩:=S;have WT:∀n,e=some n->n<w.length:=fun n h=>WT n (by rw[show scan w (w.length+1) (Ci false w)=Cv w from rfl,hE];exact h);dsimp only at*;focus
  refine Eh U<|Sq<|Es<|qm U ?_;refine Lo (kc U (ow)) U<|Lw U ?_;refine Cn U (fun h1=>?_) (fun h1=>?_);refine Eh U ?_;refine Se ⟨.inl U,U,U,U,_,_,_,(AJ U EI Dj U (Qc U) (Aa U U)),U,U,?_⟩;rotate_left;refine Sk<|Sq<|Es<|qm U<|Lq (Ac U U U U CT U) U<|Lw U ?_;refine Cd U (fun h2=>?_) (fun h2=>?_);refine Eh U ?_;refine Se ⟨.inl U,U,U,U,_,_,_,(AJ U EI Dj U (Qc U) (Aa U U)),U,U,?_⟩;rotate_left;refine Sk<|Es<|qm U ?_;refine Lo (kc U (hit_39)) U<|Lw U ?_;rotate_left
 .rw[if_pos h1];rfl
 .rw[if_neg (by rw[h1];decide),if_pos (by omega)];rfl
 rw[if_neg (by rw[h1];decide),if_neg (by omega)];refine Hp (fun x:St=>([(8,.ptr 1 0),(6,V),(4,.ptr 0 0),(1,.str w),(0,We ds)],x)) (fun x=>x.next=2/\x.bound=0/\x.log=[]/\x.heap.get 0=some (.cells Ws 26 false)/\x.heap.get 1=some (.cells [V,.int .i64 0,.bool (decide (((e.getD w.length:Nat):Int)<(w.length:Nat)))] 93 false)) ?_ ?_
 .rcases Ti ts with h|⟨cs,n,h⟩
  .rw[h]at hV;subst hV;refine Sr<|Lv 3 U<|Lq (Ac U U U U CT U) U<|Lx U ?_;exact⟨U,U,_,⟨U,U,U,(AD 0).trans U,(AD 1).trans U⟩,U,Ah (by repeat' constructor)⟩
  .rw[h]at hV;subst hV;refine Sr<|Lv 3 U<|Lq (Ac U U U U CT U) U<|Lx U ?_;exact⟨U,U,_,⟨U,U,U,(AD 0).trans U,(AD 1).trans U⟩,U,Ah (by repeat' constructor)⟩
 rintro sX ⟨nX,bX,lX,z0,r1⟩;dsimp only;obtain⟨bad,kW⟩:∃b,b=decide (((e.getD w.length:Nat):Int)<(w.length:Nat)):=⟨_,rfl⟩
 rw[<-kW,hV]at r1;have dr:DR sX 1 ts 0 bad:=⟨r1,by omega,Qm _,by omega⟩
 refine Es<|qm U ?_;refine Af U U (by kernel_rfl) U U U U (Vq dr (by omega) fun x j b' s2 g2 d2 qY q7=>?_);have z2:=(g2.Wh.heap 0 (by omega) (by decide)).trans z0;have hlV:=KC ts;rw[<-hV]at hlV;have ee:=BF x;obtain⟨a1,a2,a3,a4,a5,a6,a7⟩:=Bg (st:=s2) (z:=WY) (cs:=[.int .i64 (x.op:Nat),.str x.text,.int .i64 0,CJ (CH x.kids) x.kids.length 4]) (T:=96);have n2:2<=s2.next:=by have:=g2.Wh.next;omega
 rw[ee];refine Lo (kz U) U<|Ln (kw U a1 U) U<|Ld<|Sq ?_;refine Aq fun s3 aX=>?_;have aX:s3=(s2.alloc (.cells WY 96 false)).put s2.next (some (.cells [.int .i64 (x.op:Nat),.str x.text,.int .i64 0,CJ (CH x.kids) x.kids.length 4] 96 false)):=aX;have g3:Ck sX s3 1:=by rw[aX];exact g2.trans (Ck.own (g2.Y2 (by omega)) rfl) (by omega)
 have z3:s3.heap.get 0=some (.cells Ws 26 false):=by rw[aX];exact(a4 0 (by omega)).trans z2
 have d3:s3.heap.get 1=some (.cells [V,.int .i64 (j:Nat),.bool b'] 93 false):=by rw[aX,hV];exact(a4 1 (by omega)).trans d2.at_
 have t3:s3.heap.get s2.next=some (.cells [.int .i64 (x.op:Nat),.str x.text,.int .i64 0,CJ (CH x.kids) x.kids.length 4] 96 false):=by rw[aX];exact a2
 have n3:s3.next=s2.next+1:=by rw[aX];exact a7
 have hj:=d2.le;clear a1 a2 a3 a4 a5 a6 a7 aX;have logOf:∀ {st:St} {q:Nat},Ck sX st q->st.log=[]:=fun g=>List.eq_nil_iff_forall_not_mem.2 fun c hc=>by
  rcases g.Wh.log c hc with h|h
  .rw[lX]at h;cases h
  .omega
 have lP:∀ {st:St} {q:Nat} (o:Option Cw),Ck sX st q->(st.put 0 o).log=[]:=fun {st q} o g=>by
  show(bif Nat.blt 0 st.bound then _ else st.log)=[]
  rw[g.Wh.bound.trans bX];exact logOf g
 cases b' with
 |true=>
  have hr:(if e≠none then(Except.error 4:Except Int KT)else mG ds ts.length (Xx ts (ts.length+1) 0))= .error 4:=by
   by_cases h:e=none
   .rw[if_neg (fun h2=>h2 h),(q7 (by rw[kW,h];exact decide_eq_false (by show¬((w.length:Nat):Int)<_;omega))).2 rfl];rfl
   .rw[if_pos h]
  rw[hr];refine Es<|Lv 3 U<|Lo (kl U d3 U) U<|Lw U<|Tt U<|Es<|Lv 1 U<|Ln (kw U z3 U) U<|Lw U ?_;exact Se ⟨.inl U,U,lP _ g3,g3.Wh.bound.trans bX,_,_,[],A5 U EI Dj (Aw.trans (if_pos U)) (Qj _) (Aa U U),U,U,U⟩
 |false=>
  have au:bad=false:=by cases bad with
   |false=>rfl
   |true=>exact absurd (qY rfl) (by decide)
  have he:e=none:=by
   cases e with
   |none=>rfl
   |some n=>
    have:=WT n rfl;rw[kW]at au;have:=dF au;exact absurd (show((n:Nat):Int)<(w.length:Nat) by omega) this
  rw[if_neg (fun h=>h he),(q7 au).1 rfl];unfold mG;dsimp only;focus
   refine Es<|Lv 3 U<|Lo (kl U d3 U) U<|Lv 4 U<|Lg U U (kl U d3 U)<|Lv 1 U<|Lh U U (kn U hlV)<|Lw U ?_;refine Cd U (fun h4=>?_) (fun h4=>?_);refine Es<|Lv 1 U<|Ln (kw U z3 U) U<|Lw U ?_;rotate_left;refine Sk<|Es<|Lv 2 U<|Lo (AO U U U) U<|Lw U<|Es<|qm U ?_;rotate_left
  .rw[if_pos (by omega)];exact Se ⟨.inl U,U,lP _ g3,g3.Wh.bound.trans bX,_,_,[],A5 U EI Dj (Aw.trans (if_pos U)) (Qj _) (Aa U U),U,U,U⟩
  rw[if_neg (by omega)];refine BO fun s4 hs4=>?_;have hs4:s4=s3.alloc (.cells [We ds,.Ca,.Ca,.bool false] 100 false):=hs4;have w4:WD s4 s3.next ds false:=by rw[hs4];exact⟨A4,Nat.lt_succ_self _⟩
  have g4:Ck sX s4 1:=by rw[hs4];exact g3.trans (Ck.alloc (g3.Y2 (by omega))) (by omega)
  have z4:s4.heap.get 0=some (.cells Ws 26 false):=by rw[hs4];exact(Ao (by omega)).trans z3
  have t4:s4.heap.get s2.next=some (.cells [.int .i64 (x.op:Nat),.str x.text,.int .i64 0,CJ (CH x.kids) x.kids.length 4] 96 false):=by rw[hs4];exact(Ao (by omega)).trans t3
  have n4:s4.next=s3.next+1:=by rw[hs4];rfl
  clear hs4;have hfx:=Ir fO _ _ _ _ ((q7 au).1 rfl);have b4:s4.bound=0:=g4.Wh.bound.trans bX;refine Lo (kL U t4 U) U ?_;refine Af U U (by kernel_rfl) (by rw[ee];rfl:_=some [.ptr s3.next 0,.agg (WH x),Ww [],.bool true]) U U U (Ux ds (by omega) s3.next (iB x) s4 x [] false _ _ (Qj _) w4 (by omega) (by show 0+YX x<=4000;omega) fun s5 g5 w5=>?_);have WT:=Mu ds x [];have z5:s5.heap.get 0=some (.cells Ws 26 false):=(g5.Wh.heap 0 (by omega) (by omega)).trans z4;have l5:s5.log=[]:=List.eq_nil_iff_forall_not_mem.2 fun c hc=>by
   rcases g5.Wh.log c hc with h|h
   .rw[logOf g4]at h;cases h
   .omega
  have b5:s5.bound=0:=g5.Wh.bound.trans b4;have n5:=g5.Wh.next;generalize cI ds x []=A at*;obtain⟨T,ps,ab⟩:=A;dsimp only at WT w5|-;rw[Bool.false_or]at w5;have w5h:=w5.at_;have xN:∀ {s},Cc (EK LF) 42 [We ds,.agg (W4 T)] s (.bool (CG ds 20 T)):=OZ (by omega);have heq:=BH T;have res2:∀ {st:St},st.log=[]->st.bound=0->∀o,(st.put 0 o).log=[]:=fun {st} hl hb o=>by
   show(bif Nat.blt 0 st.bound then _ else st.log)=[]
   rw[hb];exact hl
  obtain⟨a1,a2,a3,a4,a5,a6,a7⟩:=Bg (st:=s5) (z:=Ws) (cs:=[.int .i64 T.op,.int .i64 T.n,CJ (CS T.kids) T.kids.length 3]) (T:=26);rw[heq]at xN|-;refine Lv 3 U<|Lo (kz U) U<|Ln (kw U a1 U) U<|Lw U<|Sq ?_;refine Aq fun s6 pL=>?_;have pL:s6=(s5.alloc (.cells Ws 26 false)).put s5.next (some (.cells [.int .i64 T.op,.int .i64 T.n,CJ (CS T.kids) T.kids.length 3] 26 false)):=pL;have z6:s6.heap.get 0=some (.cells Ws 26 false):=by rw[pL];exact(a4 0 (by omega)).trans z5
  have w6:s6.heap.get s3.next=some (.cells [We ds,.Ca,.Ca,.bool ab] 100 false):=by rw[pL];exact(a4 _ (by omega)).trans w5h
  have t6:s6.heap.get s5.next=some (.cells [.int .i64 T.op,.int .i64 T.n,CJ (CS T.kids) T.kids.length 3] 26 false):=by rw[pL];exact a2
  have b6:s6.bound=0:=by rw[pL];exact a5.trans b5
  have l6:s6.log=[]:=by rw[pL];exact(a6 (by omega)).trans l5
  clear a1 a2 a3 a4 a5 a6 a7 pL;focus
   refine Es<|Lv 3 U<|Lo (kl U w6 U) U<|Ld ?_;refine Cb U (fun g6=>?_) (fun g6=>?_);refine Es<|Lv 1 U<|Ln (kw U z6 U) U<|Lw U ?_;rotate_left;refine Sk<|Sq<|Es<|qm U<|Lo (kL U t6 U) U ?_;refine Lo (Av U U (by kernel_rfl) U (xN)) U<|Lw U ?_;refine Cn U (fun h7=>?_) (fun h7=>?_);refine Es<|Lv 1 U<|Ln (kw U z6 U) U<|Lw U ?_;rotate_left;refine Sk<|Es<|Lo (kL U t6 U) U<|Ln (kw U z6 U) U<|Lw U ?_;rotate_left
  .rw[if_pos g6];exact Se ⟨.inl U,U,res2 l6 b6 _,b6,_,_,[],A5 U EI Dj (Aw.trans (if_pos U)) (Qj _) (Aa U U),U,U,U⟩
  .rw[if_neg (by rw[g6];decide),if_pos h7];exact Se ⟨.inl U,U,res2 l6 b6 _,b6,_,_,[],A5 U EI Dj (Aw.trans (if_pos U)) (Qj _) (Aa U U),U,U,U⟩
  .rw[if_neg (by rw[g6];decide),if_neg (by simp_all)];refine Se ⟨.inl U,U,res2 l6 b6 _,b6,_,_,[],A5 U EI Dj (Aw.trans (if_pos U)) (Qj _) (Aa U U),(?_:_=some (.tuple [.agg (W4 T),.int .i64 0],[])),?_,U⟩
   .show((((Cs _ 0 39 (.agg [.int .i64 T.op,.int .i64 T.n,CJ (CS T.kids) T.kids.length 3]) []).bind _)).bind _)=_;rw[Rj];rfl
   .show(Cr 0 39 (.agg (W4 T))&&true)=true;rw[F2];rfl
abbrev nmL (k:Nat):List AV:=((List.range k).map spell).map .str
structure NM (s:St) (bl bb bn bx k:Nat) (v:AV):Prop where
 nm:s.heap.get bn=some (.cells [v] 67 false)
 gr:Grown s 9 1 v (nmL k) k
 nx:s.heap.get bx=some (.cells [.int .i64 (k:Nat)] 3 false)
 bt:s.heap.get bb=some (.cells [.slice bl 0 1 1 (some 1)] 67 false)
 ls:s.heap.get bl=some (.cells [.str [105,110,116]] 9 false)
 o1:bl<bb
 o2:bb<bn
 o3:bn<bx
 o4:bx<s.next
 own:∀c,C6 c v=true->bx<c
 le:k<=20
structure Ng (s s':St) (bn bx:Nat) (v v':AV):Prop where
 Wh:XB s s' (fun c=>c=bn\/c=bx\/C6 c v=true)
 own:∀c,C6 c v'=true->C6 c v=true\/s.next<=c
 ax:Ct s s'
theorem Ng.refl {s:St} {bn bx:Nat} {v:AV}:Ng s s bn bx v v:=⟨XB.refl,fun _ h=> .inl h,Ct.refl⟩
theorem Ng.trans {s s1 s2:St} {bn bx:Nat} {v v1 v2:AV} (g:Ng s s1 bn bx v v1) (h:Ng s1 s2 bn bx v1 v2) (hb:s.bound<=s.next):Ng s s2 bn bx v v2:=
 ⟨g.Wh.trans h.Wh (fun _ h=>h) (fun c hc=>by
  rcases hc with h1|h1|h1
  .exact .inl (.inl h1)
  .exact .inl (.inr (.inl h1))
  .exact(g.own c h1).imp (fun h=> .inr (.inr h)) id) hb,fun c hc=>(by
  rcases h.own c hc with h1|h1
  .exact g.own c h1
  .exact .inr (Nat.le_trans g.Wh.next h1)),g.ax.trans h.ax⟩
theorem Ng.back {s st:St} {bn bx:Nat} {v v':AV} (g:Ng s.enter st bn bx v v') (hb:s.bound<=s.next):Ng s (s.back st) bn bx v v':=⟨XB.back g.Wh,g.own,Ct.back g.ax hb⟩
theorem Ng.of {s s1:St} {bn bx:Nat} {v:AV} (c:XB s s1 (fun _=>False)) (l:Ct s s1):Ng s s1 bn bx v v:=⟨⟨c.next,c.bound,fun b hb=>(c.log b hb).imp id fun h=>h.2.elim,fun b hb _=>c.heap b hb id⟩,fun _ h=> .inl h,l⟩
theorem Ng.Y2 {s s1:St} {bn bx:Nat} {v v1:AV} (g:Ng s s1 bn bx v v1) (hb:s.bound<=s.next):s1.bound<=s1.next:=by rw[g.Wh.bound];exact Nat.le_trans hb g.Wh.next
theorem NM.Wd {s s':St} {bl bb bn bx k:Nat} {v:AV} (h:NM s bl bb bn bx k v) (c:XB s s' (fun _=>False)):NM s' bl bb bn bx k v:=by
 have:=h.o1;have:=h.o2;have:=h.o3;have:=h.o4;have hn:=c.next;exact⟨(c.heap bn (by omega) id).trans h.nm,h.gr.Wd hn fun d hd=>c.heap d (h.gr.own hd) id,(c.heap bx (by omega) id).trans h.nx,(c.heap bb (by omega) id).trans h.bt,(c.heap bl (by omega) id).trans h.ls,h.o1,h.o2,h.o3,by omega,h.own,h.le⟩
theorem U3 {s:St} {b:Nat} {part:Bool} {x w:X4} (hg:s.heap.get b=some (.cells [.str x] 9 part)) (h:x≠w):Cc (EK LF) 175 [.slice b 0 1 1 (some 1),.str w] s (.int .i64 (-1)):=by
 refine Cc.flat (fn:=Tryz.f175) U (by kernel_rfl) U U U U (fun _ _=>rfl) (fun _=>rfl)<|Ew U<|Sq<|Ew U<|Sb ?_;refine Ai (fun k:Nat=>([(8,.int .i64 (k:Nat)),(7,.int .i64 (1:Nat)),(1,.str w),(0,.slice b 0 1 1 (some 1))],s.enter)) (fun k=>1-k) (fun k=>k<=1) 0 (Qm _) U (Ah (by repeat' constructor)) fun k hk=>?_;have g1:s.enter.heap.get b=some (.cells [.str x] 9 part):=hg;rcases(by omega:k=0\/k=1)with rfl|rfl
 .focus
   refine Ew U<|Sq<|Tt U<|Sk<|Sq<|Sb<|Ew U<|Es<|Lv 3 U ?_;refine Lq (kM (k:=0) U (by omega)) U ?_;refine Lo (kl U g1 U) U<|Lq (A2 U CT U U U U) U<|Ld ?_;refine Cb U (fun g2=>?_) (fun g2=>?_);have h2:=bT g2;refine Ew U ?_;rotate_left;have h2:=bF g2;refine Sk<|Sr ?_;refine Lq (ka (a:=0) (b:=1) U (by omega)) U ?_;refine Lw U ?_;rotate_left
  .exact absurd h2 (Ne.symm h)
  .exact⟨1,Qj _,by decide,U,U,Ah (by repeat' constructor)⟩
 .refine Ew U ?_;refine Sq<|Tf U<|Sx<|A8 U<|Ew U ?_;exact Se ⟨.inl U,U,U,_,Aa U U,U⟩
theorem O3 {s:St} {b:Nat} {part:Bool} {x w:X4} (hg:s.heap.get b=some (.cells [.str x] 9 part)) (h:x≠w):Cc (EK LF) 111 [.slice b 0 1 1 (some 1),.str w] s (.bool false):=by
 refine Cc.flat (fn:=Tryz.f111) U (by kernel_rfl) U U U U (fun _ _=>rfl) (fun _=>rfl) ?_;have run_175:=U3 (s:=s.enter) hg h;refine Ew U<|Es<|Lv 2 U ?_;refine Lo (Av U U (by kernel_rfl) U (run_175)) U<|Lw U ?_;exact Se ⟨.inl U,U,U,_,Aa U U,U⟩
theorem nm_at {s:St} {bl bb bn bx k:Nat} {v:AV} (h:NM s bl bb bn bx k v) {n:Nat} (hn:n<k):∃b,v= .slice b 0 k 1 none/\s.heap.get b=some (.cells (nmL k) 9 true)/\(nmL k)[n]?=some (.str (spell n)):=by
 obtain⟨b,rfl,hb,hg,hl,h0⟩:=h.gr.resolve_left fun h=>by omega
 refine⟨b,U,hg,?_⟩;unfold nmL;rw[List.getElem?_map,List.getElem?_map,List.getElem?_range hn];rfl
theorem RX {s:St} {bl bb bn bx k n:Nat} {v:AV} (h:NM s bl bb bn bx k v) (hb:s.bound<=s.next) (hn:n<20) {R RP:AV->St->Prop} (hR:∀k' v' s',Ng s s' bn bx v v'->NM s' bl bb bn bx k' v'->R (.str (spell n)) s'):
 CE (EK LF) 108 [.int .i64 (n:Nat),.ptr bn 0,.ptr bx 0,.ptr bb 0] s R RP:=by
 refine Ar U ?_;have hE:s.enter.bound<=s.enter.next:=Qj _;have h0:NM s.enter bl bb bn bx k v:=⟨h.nm,h.gr,h.nx,h.bt,h.ls,h.o1,h.o2,h.o3,h.o4,h.own,h.le⟩
 refine Ew U<|Sq<|Sb ?_;refine Ai (fun x:Nat×AV×St=>([(0,.int .i64 (n:Nat)),(1,.ptr bn 0),(2,.ptr bx 0),(3,.ptr bb 0)],x.2.2)) (fun x=>20-x.1) (fun x=>Ng s.enter x.2.2 bn bx v x.2.1/\NM x.2.2 bl bb bn bx x.1 x.2.1) (k,v,s.enter) ⟨Ng.refl,h0⟩ U (Ah (by repeat' constructor)) ?_;rintro⟨j,vj,st⟩ ⟨hg,hm⟩;dsimp only at hg hm|-;obtain⟨m1,m2,m3,m4,m5,o1,o2,o3,o4,own,le⟩:=hm;have hlen:=Grown.len m2;have jn:=hg.Y2 hE;have hit_109:LF 109 [.int .i64 (j:Nat)]=some (.str (spell j)):=hq_109 (by omega);have hit_110:LF 110 [.str (spell j)]=some (.bool false):=by
  have:=wk (w:=spell j);rw[show isWord (spell j)=false from PS _]at this;exact this
 by_cases pf:j<=n
 .obtain⟨sP,sq⟩:∃x,x=st.put bx (some (.cells [.int .i64 ((j+1:Nat):Int)] 3 false)):=⟨_,rfl⟩
  have pP:∀c,c≠bx->sP.heap.get c=st.heap.get c:=fun c hc=>by rw[sq,Aw,if_neg hc]
  have xP:sP.heap.get bx=some (.cells [.int .i64 ((j+1:Nat):Int)] 3 false):=by rw[sq];exact Aw.trans (if_pos rfl)
  have nP:sP.next=st.next:=by rw[sq];rfl
  have gP:Ng s.enter sP bn bx v vj:=by
   rw[sq];exact⟨hg.Wh.trans XB.put (fun _ h=>h) (fun c hc=> .inl (.inr (.inl hc))) hE,hg.own,hg.ax.trans Ct.put⟩
  have m1P:=(pP bn (by omega)).trans m1;have m4P:=(pP bb (by omega)).trans m4;have m5P:=(pP bl (by omega)).trans m5;have m2P:Grown sP 9 1 vj (nmL j) j:=m2.Wd (by omega) fun c hc=>pP c (by have:=own c hc;omega);have hbP:=gP.Y2 hE;have run_111:=O3 (s:=sP) (x:=[105,110,116]) (w:=spell j) m5P (fun e=>by have:=congrArg List.length e;simp[spell]at this);focus
   refine Sq<|Es<|Lo (kl U m1 U) U<|Lq (kn U hlen) U<|Lw U ?_;refine Cd U (fun h1=>?_) (fun h1=>?_);refine Sk<|Sb<|Es<|Lo (kl U m3 U) U ?_;refine Lo (kc U (hit_109)) U<|Lw U<|Es<|Lo (kl U m3 U) U ?_;refine Lq (ka (b:=1) U (by omega)) U ?_;refine Ln (kw U m3 U) U<|Ld ?_;rotate_left;exact absurd h1 (by omega)
  refine Aq fun sX WZ=>?_;obtain rfl:sX=sP:=WZ.trans sq.symm;clear WZ sq;refine Es<|qm U ?_;refine Lo (kc U (hit_110)) U<|Lv 2 U<|Lg U U (kl U m4P U)<|Lv 1 U ?_;refine Lg U U (Av U U (by kernel_rfl) U (run_111))<|Lw U<|Tt U<|Sr<|Lo (kl U m1P U) U<|qm U<|Lo (AC U MV HT pU U U U) U ?_;refine BP m2P U (by decide) (AH (by omega) (by decide)) (AH (by omega) (by decide)) U U U U MV HT tf pU (by kernel_rfl) (by kernel_rfl) U U U U U fun v6 s6 f6 o6 c6 l6=>?_;have n6:=c6.next;have p6:∀c,c<=bx->s6.heap.get c=sX.heap.get c:=fun c hc=>c6.heap c (by omega) fun e=>by have:=own c e;omega
  have WT:=Ht ((p6 bn (by omega)).trans m1P) f6.sl;refine Ln (BD U sz_67 U U WT) U<|Ld ?_;have p7:∀c,c≠bn->(s6.put bn (some (.cells [v6] 67 false))).heap.get c=s6.heap.get c:=fun c hc=>by rw[Aw,if_neg hc]
  refine⟨(j+1,v6,s6.put bn (some (.cells [v6] 67 false))),⟨⟨?_,fun c hc=> .inr (by have:=o6 c hc;have:=gP.Wh.next;omega),(gP.ax.trans (l6 hbP)).trans Ct.put⟩,Aw.trans (if_pos U),?_,(p7 bx (by omega)).trans ((p6 bx (Qj _)).trans xP),(p7 bb (by omega)).trans ((p6 bb (by omega)).trans m4P),(p7 bl (by omega)).trans ((p6 bl (by omega)).trans m5P),o1,o2,o3,by show bx<s6.next;omega,fun c hc=>by have:=o6 c hc;omega,by dsimp only;omega⟩,by show 20-(j+1)<20-j;omega,rfl,rfl,Ah (by repeat' constructor)⟩
  .exact(gP.Wh.trans c6 (own:=fun c=>c=bn\/c=bx\/C6 c v=true) (fun _ h=>h) (fun c hc=>(gP.own c hc).imp (fun h=> .inr (.inr h)) id) hE).trans XB.put (fun _ h=>h) (fun c hc=> .inl (.inl hc)) hE
  .have f7:Grown s6 9 1 v6 (nmL (j+1)) (j+1):=by
    unfold nmL at f6|-;rw[List.range_succ,List.map_append,List.map_append];exact f6
   exact f7.Wd (Qj _) fun c hc=>p7 c (by have:=o6 c hc;omega)
 .obtain⟨b,rfl,hvg,hvn⟩:=nm_at ⟨m1,m2,m3,m4,m5,o1,o2,o3,o4,own,le⟩ (show n<j by omega);have hld:Wy (EK LF) 9 st (.ptr b (0+n*(0+1)))=some (.str (spell n)):=AI oi HT hvg (by rw[Nat.zero_add,Nat.zero_add,Nat.mul_one];exact hvn);focus
   refine Sq<|Es<|Lo (kl U m1 U) U<|Lw U ?_;refine Cd U (fun h1=>?_) (fun h1=>?_);exact absurd h1 (by omega);refine Sx<|A8 U<|Es<|Lo (kl U m1 U) U<|qm U ?_;refine Lq (kM U (by omega)) U ?_;refine Lo (B9 U U hld) U<|Lw U ?_;rotate_left
  exact Se (Al ⟨.inl U,_,rfl,_,Aa U U,AL U (fun _ _=>rfl) (fun _=>rfl) (fun _=>hR k v s Ng.refl h) (fun _=>hR j _ _ (hg.back hb) ⟨m1,m2,m3,m4,m5,o1,o2,o3,o4,own,le⟩)⟩)
abbrev NF (bn bx bb:Nat):AV:= .func (.func 108) [] [.ptr bn 0,.ptr bx 0,.ptr bb 0]
structure Kept (s:St) (bx:Nat) (v:AV) (b:Nat):Prop where
 lt:b<s.next
 gt:bx<b
 no:C6 b v=false
theorem Ng.kp {s s':St} {bl bb bn bx k b:Nat} {v v':AV} (g:Ng s s' bn bx v v') (h:NM s bl bb bn bx k v) (hk:Kept s bx v b):s'.heap.get b=s.heap.get b/\Kept s' bx v' b:=by
 have h3:=h.o3;have hg:=hk.gt;have hl:=hk.lt;refine⟨g.Wh.heap b hk.lt fun h1=>?_,⟨Nat.lt_of_lt_of_le hk.lt g.Wh.next,hk.gt,?_⟩⟩
 .rcases h1 with h1|h1|h1
  .omega
  .omega
  .rw[hk.no]at h1;cases h1
 .cases hh:C6 b v' with
  |false=>rfl
  |true=>
   rcases g.own b hh with h1|h1
   .rw[hk.no]at h1;cases h1
   .omega
theorem NM.kp {s:St} {bl bb bn bx k b:Nat} {v:AV} (h:NM s bl bb bn bx k v) {s':St} (hs:s.next<=b) (hb:b<s'.next):Kept s' bx v b:=⟨hb,by have:=h.o4;omega,by
 cases hh:C6 b v with
 |false=>rfl
 |true=>have:=h.gr.own hh;omega⟩
theorem Ng.merged {S s2:St} {bl bb bn bx k:Nat} {v v':AV} (g:Ng (S.sub S.heap) s2 bn bx v v') (h:NM s2 bl bb bn bx k v') (hb:S.bound<=S.next):S.next<=s2.next/\(∀c∈s2.log,c<S.next/\(c=bn\/c=bx\/C6 c v=true))/\Ng S (S.merged s2) bn bx v v'/\NM (S.merged s2) bl bb bn bx k v':=by
 have hn:S.next<=s2.next:=g.Wh.next;have:=h.o1;have:=h.o2;have:=h.o3;have:=h.o4;have hm:∀c,c<s2.next->(S.merged s2).heap.get c=s2.heap.get c:=D6 hn g.ax rfl;refine⟨hn,fun c hc=>?_,⟨g.Wh.merged,g.own,Ct.region hn g.ax hb⟩,⟨(hm bn (by omega)).trans h.nm,h.gr.Wd (Qj _) fun c hc=>hm c (h.gr.own hc),(hm bx (by omega)).trans h.nx,(hm bb (by omega)).trans h.bt,(hm bl (by omega)).trans h.ls,h.o1,h.o2,h.o3,h.o4,h.own,h.le⟩⟩;rcases g.Wh.log c hc with h1|h1
 .cases h1
 .exact h1
theorem xO (ds:List DT) (t:KT):dG ds true t=if t.op=3 then [40]++dG ds false t++[41]else dG ds false t:=by
 obtain⟨o,n,ks⟩:=t;rw[HY,HY];show _=if o=3 then _ else _;by_cases h1:o=1
 .subst h1;rfl
 .by_cases h2:o=2
  .subst h2;rfl
  .by_cases h3:o=3
   .subst h3;rfl
   .rw[if_neg h1,if_neg h2,if_neg h3,if_neg h3,if_neg h1,if_neg h2,if_neg h3]
section
variable {ds : List DT} (iE : ds.length <= 1000) (rD : aT ds) {bl bb bn bx : Nat}
def KdC (ds:List DT) (bl bb bn bx d:Nat):Prop:=∀(s:St) (t:KT) (k:Nat) (v:AV) (R RP:AV->St->Prop),Wo t<=d->Wa t<=1000->Y1 ds 20 t=true->NM s bl bb bn bx k v->s.bound<=s.next->
 (∀k' v' s',Ng s s' bn bx v v'->NM s' bl bb bn bx k' v'->R (.str (dG ds false t)) s')->CE (EK LF) 46 [We ds,NF bn bx bb,.agg (Cm t)] s R RP
theorem FC {d:Nat} (hK:KdC ds bl bb bn bx d) {s:St} {t:KT} {k b3 b4:Nat} {v:AV} {e3 e4:TypeId} (g3:s.heap.get b3=some (.cells [We ds] e3 false)) (g4:s.heap.get b4=some (.cells [NF bn bx bb] e4 false)) (k3:b3<s.next) (k4:b4<s.next) (hd:Wo t<=d) (hs:Wa t<=1000) (ZW:Y1 ds 20 t=true) (h:NM s bl bb bn bx k v) (hb:s.bound<=s.next) {R RP:AV->St->Prop}
 (hR:∀k' v' s',Ng s s' bn bx v v'->NM s' bl bb bn bx k' v'->R (.str (dG ds false t)) s'):CE (EK LF) 105 [.agg (Cm t),.ptr b3 0,.ptr b4 0] s R RP:=by
 refine Ar U ?_;have hE:s.enter.bound<=s.enter.next:=Qj _;have ee:=AA t;obtain⟨sA,Yr⟩:∃x,x=s.enter.alloc (.cells (Cm t) 26 false):=⟨_,rfl⟩
 have cA:XB s.enter sA (fun _=>False):=by rw[Yr];exact XB.alloc
 have lA:Ct s.enter sA:=by rw[Yr];exact Ct.alloc hE
 have hA:NM sA bl bb bn bx k v:=NM.Wd (s:=s.enter) ⟨h.nm,h.gr,h.nx,h.bt,h.ls,h.o1,h.o2,h.o3,h.o4,h.own,h.le⟩ cA;have g3:sA.heap.get b3=some (.cells [We ds] e3 false):=(cA.heap b3 k3 id).trans g3;have g4:sA.heap.get b4=some (.cells [NF bn bx bb] e4 false):=(cA.heap b4 k4 id).trans g4;have tA:sA.heap.get s.next=some (.cells (Cm t) 26 false):=by rw[Yr];exact A4
 rw[ee]at Yr tA|-;refine Es<|Lo (AO U U U) U<|Lw U ?_;refine Aq fun sX WZ=>?_;obtain rfl:sX=sA:=WZ.trans Yr.symm;clear WZ Yr;refine Es ?_;iterate 2 refine Lo (kl U ‹_› U) U ?_
 refine Lo (kL U tA U) U ?_;refine Af U U (by kernel_rfl) (by rw[ee];rfl:_=some [We ds,NF bn bx bb,.agg (Cm t)]) U U U (hK sX t k v _ _ hd hs ZW hA (by rw[cA.bound];exact Nat.le_trans hE cA.next) fun k' v' s' g n=>?_);refine Lw U ?_;exact Se (Al ⟨.inl U,_,rfl,_,Aa U U,AL U (fun _ _=>rfl) (fun _=>rfl) (fun _=>hR k v s Ng.refl h) (fun _=>hR k' v' _ (((Ng.of cA lA).trans g hE).back hb) ⟨n.nm,n.gr,n.nx,n.bt,n.ls,n.o1,n.o2,n.o3,n.o4,n.own,n.le⟩)⟩)
theorem NM.Wh {s s':St} {k:Nat} {v:AV} {own:Nat->Prop} (h:NM s bl bb bn bx k v) (c:XB s s' own) (ho:∀d,own d->bx<d/\C6 d v=false):NM s' bl bb bn bx k v:=by
 have:=h.o1;have:=h.o2;have:=h.o3;have:=h.o4;have hn:=c.next;have lo:∀d,d<=bx->s'.heap.get d=s.heap.get d:=fun d hd=>c.heap d (by omega) fun h=>by have:=(ho d h).1;omega
 exact⟨(lo bn (by omega)).trans h.nm,h.gr.Wd hn (fun d hd=>c.heap d (h.gr.own hd) fun h2=>(by rw[(ho d h2).2]at hd;cases hd)),(lo bx (by omega)).trans h.nx,(lo bb (by omega)).trans h.bt,(lo bl (by omega)).trans h.ls,h.o1,h.o2,h.o3,by omega,h.own,h.le⟩
theorem xQ {d:Nat} (hK:KdC ds bl bb bn bx d) {s:St} {ks:List KT} {k b3 b4:Nat} {v:AV} {e3 e4:TypeId} (g3:s.heap.get b3=some (.cells [We ds] e3 false)) (g4:s.heap.get b4=some (.cells [NF bn bx bb] e4 false)) (k3:Kept s bx v b3) (k4:Kept s bx v b4) (hd:Xq ks<=d) (hs:Wj ks<=1000) (ZW:ks.all (Y1 ds 20)=true) (h:NM s bl bb bn bx k v) (hb:s.bound<=s.next) {R RP:AV->St->Prop}
 (hR:∀k' v' s',Ng s s' bn bx v v'->NM s' bl bb bn bx k' v'->R (Ww (ZZ ds ks)) s'):CE (EK LF) 107 [CM Cm 3 ks,.func (.func 105) [] [.ptr b3 0,.ptr b4 0]] s R RP:=by
 refine Ar U ?_;have hE:s.enter.bound<=s.enter.next:=Qj _;have fX:=DX ks;iterate 2 refine Ew U ?_
 refine Sq<|Ew U<|Sb ?_;refine Ai (fun x:Nat×Nat×AV×AV×St=>([(10,.int .i64 (x.1:Nat)),(9,.int .i64 (ks.length:Nat)),(8,CM Cm 3 ks),(5,x.2.2.2.1),(1,.func (.func 105) [] [.ptr b3 0,.ptr b4 0])],x.2.2.2.2)) (fun x=>ks.length-x.1)
  (fun x=>x.1<=ks.length/\Ng s.enter x.2.2.2.2 bn bx v x.2.2.1/\NM x.2.2.2.2 bl bb bn bx x.2.1 x.2.2.1/\(x.2.2.2.2.heap.get b3=some (.cells [We ds] e3 false)/\Kept x.2.2.2.2 bx x.2.2.1 b3)/\(x.2.2.2.2.heap.get b4=some (.cells [NF bn bx bb] e4 false)/\Kept x.2.2.2.2 bx x.2.2.1 b4)/\
   Grown x.2.2.2.2 9 1 x.2.2.2.1 ((ZZ ds (ks.take x.1)).map .str) x.1/\(∀c,C6 c x.2.2.2.1=true->s.next<=c/\C6 c x.2.2.1=false))
  (0,k,v,.Ca,s.enter) ⟨Qm _,Ng.refl,⟨h.nm,h.gr,h.nx,h.bt,h.ls,h.o1,h.o2,h.o3,h.o4,h.own,h.le⟩,⟨g3,k3.lt,k3.gt,k3.no⟩,⟨g4,k4.lt,k4.gt,k4.no⟩,Grown.nil _ _ _,fun _ h=>by cases h⟩ rfl (Ah (by repeat' constructor)) ?_
 rintro⟨i,kj,vj,va,st⟩ ⟨hi,hg,hm,⟨c3,q3⟩,⟨c4,q4⟩,aV,YG⟩;dsimp only at hi hg hm c3 q3 c4 q4 aV YG|-;have jn:=hg.Y2 hE;by_cases eW:i<ks.length
 .have Yz:=EF eW;have ee:=AA ks[i];have Yw:=List.getElem_mem eW;have pQ:=Gx Yw;have rZ:=BG Yw;have hsi:=List.all_eq_true.1 ZW _ Yw;obtain⟨sA,Yr⟩:∃x,x=(st.alloc (.cells Ws 26 false)).put st.next (some (.cells (Cm ks[i]) 26 false)):=⟨_,rfl⟩
  have cA:XB st sA (fun _=>False):=by
   rw[Yr];exact XB.alloc.trans (own:=fun _=>False) (o1:=fun _=>False) (XB.put (s:=st.alloc _) (b:=st.next)) (fun _ h=>h) (fun c h=> .inr (by rw[h];exact Qj _)) jn
  have lA:Ct st sA:=by rw[Yr];exact(Ct.alloc jn).trans Ct.put
  have tA:sA.heap.get st.next=some (.cells (Cm ks[i]) 26 false):=by rw[Yr];exact Aw.trans (if_pos rfl)
  have nA:sA.next=st.next+1:=by rw[Yr];rfl
  have fe:sA.bound<=sA.next:=by rw[cA.bound];exact Nat.le_trans jn cA.next
  have mA:=hm.Wd cA;have gA:=Ng.of (bn:=bn) (bx:=bx) (v:=vj) cA lA;obtain⟨e3A,q3A⟩:=gA.kp hm q3;obtain⟨e4A,q4A⟩:=gA.kp hm q4;rw[ee]at Yz Yr tA;obtain⟨a1,a2,a3,a4,a5,a6,a7⟩:=Bg (st:=st) (z:=Ws) (cs:=[.int .i64 ks[i].op,.int .i64 ks[i].n,CM Cm 3 ks[i].kids]) (T:=26);focus
   refine Ew U<|Sq ?_;refine Cd U (fun h5=>?_) (fun h5=>?_);refine Sk<|Sq<|Sb<|Es<|Lq (kv U Yz) U<|Lv 1 U<|Lo (kz U) U<|Ln (kw U a1 U) U<|Ld<|Sr<|Lv 2 U<|Lo (kL U a2 U) U ?_;rotate_left;exact absurd h5 (by omega)
  refine BO fun sX WZ=>?_;obtain rfl:sX=sA:=WZ.trans Yr.symm;clear WZ Yr a1 a2 a3 a4 a5 a6 a7;refine Bo (args:=[.agg (Cm ks[i])]) (by kernel_rfl) U U U (by rw[ee];rfl) U U U U (FC hK (e3A.trans c3) (e4A.trans c4) q3A.lt q4A.lt (by omega) (by omega) hsi mA fe fun k' v' s4 g4 m4=>?_);have g14:=(hg.trans gA hE).trans g4 hE;obtain⟨e3B,q3B⟩:=g4.kp mA q3A;obtain⟨e4B,q4B⟩:=g4.kp mA q4A;have hvA:∀c,C6 c va=true->s4.heap.get c=st.heap.get c/\Kept s4 bx v' c:=fun c hc=>by
   obtain⟨h1,h2⟩:=YG c hc;have kc:Kept st bx vj c:=⟨aV.own hc,by have:=h.o4;omega,h2⟩
   obtain⟨w1,w2⟩:=gA.kp hm kc;obtain⟨w3,w4⟩:=g4.kp mA w2;exact⟨w3.trans w1,w4⟩
  have n4:=g4.Wh.next;have gr4:Grown s4 9 1 va ((ZZ ds (ks.take i)).map .str) i:=aV.Wd (by omega) fun c hc=>(hvA c hc).1;have hb4:=g4.Y2 fe;refine Lo (AC U MV HT pU U U U) U ?_;refine BP gr4 U (by decide) (AH (by omega) (by decide)) (AH (by omega) (by decide)) U U U U MV HT tf pU (by kernel_rfl) (by kernel_rfl) U U U U U fun v6 s6 f6 o6 c6 l6=>?_;have n6:=c6.next;refine Lw U<|Sr ?_;refine Lq (ka (b:=1) U (by omega)) U ?_;refine Lw U ?_;have Z4:∀d,C6 d va=true->bx<d/\C6 d v'=false:=fun d hd=>⟨(hvA d hd).2.gt,(hvA d hd).2.no⟩;have m6:=m4.Wh c6 Z4;have eJ:∀b,Kept s4 bx v' b->C6 b va=false->s6.heap.get b=s4.heap.get b/\Kept s6 bx v' b:=fun b hk hv=>⟨c6.heap b hk.lt (by rw[hv];decide),⟨Nat.lt_of_lt_of_le hk.lt n6,hk.gt,hk.no⟩⟩;have hold:∀b,b<s.next->C6 b va=false:=fun b hb=>by
   cases hh:C6 b va with
   |false=>rfl
   |true=>have:=(YG b hh).1;omega
  obtain⟨w3,u3⟩:=eJ b3 q3B (hold b3 k3.lt);obtain⟨w4,u4⟩:=eJ b4 q4B (hold b4 k4.lt);have rD:s.next<=s4.next:=g14.Wh.next;refine⟨(i+1,k',v',v6,s6),⟨eW,⟨?_,g14.own,g14.ax.trans (l6 hb4)⟩,m6,⟨w3.trans (e3B.trans (e3A.trans c3)),u3⟩,⟨w4.trans (e4B.trans (e4A.trans c4)),u4⟩,?_,fun c hc=>⟨by have:=o6 c hc;omega,?_⟩⟩,by show ks.length-(i+1)<ks.length-i;omega,rfl,rfl,Ah (by repeat' constructor)⟩
  .exact g14.Wh.trans c6 (fun _ h=>h) (fun c hc=> .inr (YG c hc).1) hE
  .show Grown s6 9 1 v6 ((ZZ ds (ks.take (i+1))).map .str) (i+1);rw[F6]at f6|-;rw[List.take_succ_eq_append_getElem eW,List.map_append,List.map_append];exact f6
  .have:=o6 c hc;cases hh:C6 c v' with
   |false=>rfl
   |true=>have:=m4.gr.own hh;omega
 .obtain rfl:i=ks.length:=by omega
  rw[List.take_length]at aV;have tE:(ZZ ds ks).length=ks.length:=by rw[F6,List.length_map]
  focus
   refine Ew U<|Sq ?_;refine Cd U (fun h5=>?_) (fun h5=>?_);exact absurd h5 (by omega);refine Sx<|A8 U<|Ew U ?_;rotate_left
  obtain⟨k2,hz,jP⟩:=GR aV (LQ (n:=38) _) (I9 _) [];rw[List.append_nil]at hz;have e:CJ ((ZZ ds ks).map .str) ks.length 1=Ww (ZZ ds ks):=by unfold Ww;rw[tE]
  rw[e]at hz;have gD:∀c∈k2,s.next<=c/\C6 c vj=false:=fun c hc=>YG c (jP c hc);have off:∀c,c∉k2->(kill st k2).heap.get c=st.heap.get c:=fun c hc=>GO hc;have hox:=h.o4;have ox1:=hm.o1;have ox2:=hm.o2;have ox3:=hm.o3;have lo:∀c,c<s.next->(kill st k2).heap.get c=st.heap.get c:=fun c hc=>off c fun hm=>by have:=(gD c hm).1;omega
  have qo:(kill st k2).next=st.next:=BQ;have mk:NM (kill st k2) bl bb bn bx kj vj:=⟨(lo bn (by omega)).trans hm.nm,hm.gr.Wd (Nat.le_of_eq qo.symm) (fun c hc=>off c fun zy=>by rw[(gD c zy).2]at hc;cases hc),(lo bx (by omega)).trans hm.nx,(lo bb (by omega)).trans hm.bt,(lo bl (by omega)).trans hm.ls,hm.o1,hm.o2,hm.o3,by rw[qo];exact hm.o4,hm.own,hm.le⟩
  have gk:Ng s.enter (kill st k2) bn bx v vj:=⟨XB.kill hg.Wh (fun c hc=>(gD c hc).1) hE,hg.own,Ct.kill hg.ax⟩
  exact Se (Al ⟨.inl U,_,rfl,_,Aa U U,H7 U hz (fun c hc=>by rw[hg.Wh.bound];exact(gD c hc).1) (Hr _ _ _ _ _) (fun _=>hR k v s Ng.refl h) fun _=>hR kj vj _ (gk.back hb) ⟨mk.nm,mk.gr,mk.nx,mk.bt,mk.ls,mk.o1,mk.o2,mk.o3,mk.o4,mk.own,mk.le⟩⟩)
end
theorem Fa {ds:List DT} (iE:ds.length<=1000) (rD:aT ds) {bl bb bn bx:Nat}:∀d,KdC ds bl bb bn bx d
 |0=>fun s t k v R RP h _ _ _ _ _=>by rw[E8]at h;omega
 |d+1=>by
  rintro s ⟨o,n,ks⟩ k v R RP zL hs ZW h hb hR;refine Ar U ?_;have hE:s.enter.bound<=s.enter.next:=Qj _;have rZ:Xq ks<=d:=by have:Xq ks+1<=d+1:=zL;omega
  have Xn:Wj ks+1<=1000:=hs;have fX:=DX ks;obtain⟨xi,pQ⟩:=Bool.and_eq_true_iff.1 (show(Y0 ds 20 o n ks.length&&eC ds 20 ks)=true from ZW);rw[Gw]at pQ;rw[DN];obtain⟨sA,Yr⟩:∃x,x=((s.enter.alloc (.cells [We ds] 22 false)).alloc (.cells [NF bn bx bb] 106 false)).alloc (.cells [.int .i64 o,.int .i64 n,CM Cm 3 ks] 26 false):=⟨_,rfl⟩
  have cA:XB s.enter sA (fun _=>False):=by
   rw[Yr];exact(XB.alloc.trans XB.alloc (own:=fun _=>False) (o1:=fun _=>False) (o2:=fun _=>False) (fun _ h=>h) (fun _ h=>h.elim) hE).trans XB.alloc (o2:=fun _=>False) (fun _ h=>h) (fun _ h=>h.elim) hE
  have lA:Ct s.enter sA:=by
   rw[Yr];exact((Ct.alloc hE).trans (Ct.alloc (Nat.le_succ_of_le hE))).trans (Ct.alloc (Nat.le_succ_of_le (Nat.le_succ_of_le hE)))
  have mA:NM sA bl bb bn bx k v:=NM.Wd (s:=s.enter) ⟨h.nm,h.gr,h.nx,h.bt,h.ls,h.o1,h.o2,h.o3,h.o4,h.own,h.le⟩ cA;have nA:sA.next=s.next+3:=by rw[Yr];rfl
  have g3:sA.heap.get s.next=some (.cells [We ds] 22 false):=by rw[Yr];exact(Ao (show s.next<s.next+2 by omega)).trans ((Ao (Nat.lt_succ_self _)).trans A4)
  have g4:sA.heap.get (s.next+1)=some (.cells [NF bn bx bb] 106 false):=by rw[Yr];exact(Ao (show s.next+1<s.next+2 by omega)).trans A4
  have g5:sA.heap.get (s.next+2)=some (.cells [.int .i64 o,.int .i64 n,CM Cm 3 ks] 26 false):=by rw[Yr];exact A4
  have k3:Kept sA bx v s.next:=h.kp (Qj _) (by omega);have k4:Kept sA bx v (s.next+1):=h.kp (Nat.le_succ _) (by omega);have k5:Kept sA bx v (s.next+2):=h.kp (by omega) (by omega);have gA:=Ng.of (bn:=bn) (bx:=bx) (v:=v) cA lA;have fe:=gA.Y2 hE;have fin:∀(st:St) (k':Nat) (v':AV) (w:X4),Ng s.enter st bn bx v v'->NM st bl bb bn bx k' v'->w=dG ds false (.mk o n ks)->∃cr,leave (EK LF) 46 s (.str w) st=some cr/\match cr with
   | .same v=>R v s
   | .val v s'=>R v s'
   | .WR _ _=>False:=fun st k' v' w g m hw=>AL rfl (fun _ _=>rfl) (fun _=>rfl) (fun _=>by rw[hw];exact hR k v s Ng.refl h) fun _=>by
   rw[hw];exact hR k' v' _ (g.back hb) ⟨m.nm,m.gr,m.nx,m.bt,m.ls,m.o1,m.o2,m.o3,m.o4,m.own,m.le⟩
  refine Es ?_;iterate 3 refine Lo (AO U U U) U ?_
  refine Lw U ?_;refine Aq fun sX WZ=>?_;obtain rfl:sX=sA:=WZ.trans Yr.symm;clear WZ Yr;rcases KL xi with⟨rfl,h1,h2⟩|rfl|⟨rfl,h2⟩|⟨rfl,h1,h2⟩
  .obtain⟨m,rfl⟩:=Int.eq_ofNat_of_zero_le h1;refine Ew U<|Sq<|Es<|Lv 1 U<|Lo (kl U g5 U) U<|Ld<|Sb<|Ew U<|Tf U<|Ew U<|Tt U<|Es<|Lo (kl U g4 U) U<|Lv 1 U<|Lo (kl U g5 U) U ?_;refine Bo (by kernel_rfl) U U U U U U U U (RX mA fe (by omega) fun k' v' s' g m'=>?_);refine Lw U ?_;exact Se (Al ⟨.inl U,_,U,_,Aa U U,fin _ k' v' _ (gA.trans g hE) m' (by rw[HY,if_pos U,Int.toNat_natCast])⟩)
  .refine Ew U ?_;refine Sq<|Es<|Lv 1 U<|Lo (kl U g5 U) U<|Ld<|Sb<|Ew U<|Tt U<|Ew U ?_;exact Se (Al ⟨.inl U,_,U,_,Aa U U,fin _ k v _ gA mA (by rw[HY,if_neg (by decide),if_pos rfl])⟩)
  .obtain⟨a,b,rfl⟩:∃a b,ks=[a,b]:=by
    match ks,h2 with
    | [a,b],_=>exact⟨a,b,rfl⟩
   have dg:=EF (l:=[a,b]) (i:=0) (Nat.zero_lt_succ _);have ti:=EF (l:=[a,b]) (i:=1) (Nat.lt_succ_self _);have ea:=AA a;have eb:=AA b;rw[show [a,b][0]=a from rfl,ea]at dg;rw[show [a,b][1]=b from rfl,eb]at ti;have hla:=E0 rD false a;have mj:=E0 rD false b;have hss:Wj [a,b]=Wa a+(Wa b+0):=rfl;have hda:Wo a<=Xq [a,b]:=BG (Qh ..);have hdb:Wo b<=Xq [a,b]:=BG (Qg _ (Qh ..));have hsa:=List.all_eq_true.1 pQ a (Qh ..);have hsb:=List.all_eq_true.1 pQ b (Qg _ (Qh ..));have c1:=pG 40;have c2:=pG 41;have c4:({data:= #[32,45,62,32]}:ByteArray).data.toList.length=4:=rfl;refine Ew U<|Sq<|Es<|Lv 1 U<|Lo (kl U g5 U) U<|Ld<|Sb<|Ew U<|Tf U<|Ew U<|Tf U<|Ew U<|Tt U<|Es<|Lv 2 U<|Lo (kl U g5 U) U ?_;refine Lq (kv (k:=0) U dg) U<|Lv 1 U ?_
   refine Bo (args:=[.agg (Cm a)]) (by kernel_rfl) U U U (by rw[ea];rfl) U U U U (FC (Fa iE rD d) g3 g4 k3.lt k4.lt (by omega) (by omega) hsa mA fe fun k1 v1 s1 G1 m1=>?_);obtain⟨e3,q3⟩:=G1.kp mA k3;obtain⟨e4,q4⟩:=G1.kp mA k4;obtain⟨e5,q5⟩:=G1.kp mA k5;have g3:=e3.trans g3;have g4:=e4.trans g4;have g5:=e5.trans g5;have fM:=G1.Y2 fe;have gA1:=gA.trans G1 hE;have hp:dG ds false (.mk 3 n [a,b])=dG ds true a++[32,45,62,32]++dG ds false b:=by rw[HY,if_neg (by decide),if_neg (by decide),if_pos rfl,if_neg (by decide),pH,xe]
   rw[xO]at hp;generalize dG ds false a=A at*;have go:∀(s2:St) (k2:Nat) (v2:AV),Ng s1 s2 bn bx v1 v2->NM s2 bl bb bn bx k2 v2->Ng s.enter s2 bn bx v v2/\NM s2 bl bb bn bx k2 v2:=fun s2 k2 v2 g m=>⟨gA1.trans g hE,m⟩;focus
    refine Lw U<|Sq<|Es<|Lv 1 U<|Lo (kl U g5 U) U<|Lq (kv (k:=0) U dg) U<|Lw U ?_;refine Cd U (fun h6=>?_) (fun h6=>?_);refine Sr<|qm U ?_;iterate 2 refine Lq (AK U CT U U (by first|assumption|omega|(simp only[LL];omega))) U ?_
    refine Lw U<|Es<|qm U ?_;refine Lq (AK U CT U U (by first|assumption|omega|(simp only[LL];omega))) U ?_;refine Lv 2 U<|Lo (kl U g5 U) U<|Lq (kv (k:=1) U ti) U<|Lv 1 U ?_;rotate_left;refine Sk<|Es<|qm U ?_;refine Lq (AK U CT U U (by omega)) U ?_;refine Lv 2 U<|Lo (kl U g5 U) U<|Lq (kv (k:=1) U ti) U<|Lv 1 U ?_;rotate_left
   .refine Bo (args:=[.agg (Cm b)]) (by kernel_rfl) U U U (by rw[eb];rfl) U U U U (FC (Fa iE rD d) g3 g4 q3.lt q4.lt (by omega) (by omega) hsb m1 fM fun k2 v2 s2 G2 m2=>?_);rw[if_pos h6]at hp;generalize dG ds false b=B at*;refine Lq (AK U CT U U (by first|assumption|omega|(simp only[LL];omega))) U ?_;refine Lw U ?_;exact Se (Al ⟨.inl U,_,U,_,Aa U U,fin _ k2 v2 _ (go _ _ _ G2 m2).1 m2 (by rw[hp])⟩)
   .refine Bo (args:=[.agg (Cm b)]) (by kernel_rfl) U U U (by rw[eb];rfl) U U U U (FC (Fa iE rD d) g3 g4 q3.lt q4.lt (by omega) (by omega) hsb m1 fM fun k2 v2 s2 G2 m2=>?_);rw[if_neg h6]at hp;generalize dG ds false b=B at*;refine Lq (AK U CT U U (by first|assumption|omega|(simp only[LL];omega))) U ?_;refine Lw U ?_;exact Se (Al ⟨.inl U,_,U,_,Aa U U,fin _ k2 v2 _ (go _ _ _ G2 m2).1 m2 (by rw[hp])⟩)
  .obtain⟨m,rfl⟩:=Int.eq_ofNat_of_zero_le h1;have hm:m<ds.length:=by omega
   have Yz:=A9 AS hm;unfold Y9 at Yz;have XV:(ZZ ds ks).length=ks.length:=by rw[F6,List.length_map]
   have zc:=It rD ks;have pO:=Mr (ZZ ds ks);have dx:=rD _ (List.getElem_mem hm);have hit_106:LF 106 [Ww (ZZ ds ks)]=some (.str (jA (ZZ ds ks))):=hq_106 (by omega) (by omega);have hp:dG ds false (.mk 4 m ks)=ds[m].name++jA (ZZ ds ks):=by
    rw[HY,if_neg (by decide),if_neg (by decide),if_neg (by decide)];unfold nameOf;rw[Int.toNat_natCast,Qi hm];rfl
   refine Ew U<|Sq<|Es<|Lv 1 U<|Lo (kl U g5 U) U<|Ld<|Sb<|Ew U<|Tf U<|Ew U<|Tf U<|Ew U<|Tf U<|Sk<|Ag (by kernel_rfl)<|FO U U (AI ag_22 sz_22 g3 U) U (.inl U) U U ?_;refine Nv 1 U<|FO U U (AI ag_3 zV g5 U) U (.inl U) U U<|Nq (kv U Yz) U<|Nv 3 U<|Nm U g5 U (.inl U) U<|Nv 1 U ?_;refine En (by kernel_rfl) U U U (xQ (Fa iE rD d) (s:=sX.sub sX.heap) (ks:=ks) (k:=k) (v:=v) g3 g4 ⟨k3.lt,k3.gt,k3.no⟩ ⟨k4.lt,k4.gt,k4.no⟩ rZ (by omega) pQ ⟨mA.nm,mA.gr,mA.nx,mA.bt,mA.ls,mA.o1,mA.o2,mA.o3,mA.o4,mA.own,mA.le⟩ (Qj _) (R:=fun x s'=>x=Ww (ZZ ds ks)/\∃k' v',Ng (sX.sub sX.heap) s' bn bx v v'/\NM s' bl bb bn bx k' v') (RP:=fun _ _=>False) fun k' v' s' g m=>⟨rfl,k',v',g,m⟩) (sj (by kernel_rfl)) U (.inl U) U U ?_ (fun _ _ h=>h.elim);rintro x s2 ⟨rfl,k',v',G,M⟩;obtain⟨n1,n2,G2,M2⟩:=G.merged M fe;have yX:∀b,Kept sX bx v b->b∉s2.log:=fun b hk hm=>by
    have h3:=h.o3;have hg:=hk.gt;rcases(n2 b hm).2 with h1|h1|h1
    .omega
    .omega
    .rw[hk.no]at h1;cases h1
   refine⟨n1,fun c hc=>(n2 c hc).1,fun e he=>?_,fun iD dx=>?_⟩
   .rcases Qk.1 he with rfl|he
    .exact .inr (.inl (yX _ k5))
    .rw[Qn.1 he];exact .inr (.inl (yX _ k3))
   generalize sX.merged s2=s3 at*;refine Na (kC U (hit_106)) (.inl U) U ?_;refine Nq (AK U CT U U (by omega)) U ?_;refine Nw U ?_;exact Se (Al ⟨.inl U,_,U,_,Aa U U,fin _ k' v' _ (gA.trans G2 hE) M2 hp.symm⟩)
theorem RD {ds:List DT} {t:KT} (h:(VX ds t).2≠0):(VX ds t).1=[]:=by
 unfold VX at h|-;split
 .next h1=>
  rw[if_pos h1]at h;split
  .next h2=>rw[if_pos h2]at h;exact absurd rfl h
  .rfl
 .rfl
theorem Ss {ds:List DT} (hs:CD ds=true) {s:St} {p:Nat} (hb:s.bound<=s.next) {R RP:AV->St->Prop} (hR:(ds.all fun d=>WX d.name)=true->∀s',Ck s s' p->R (.tuple []) s') (hP:(ds.all fun d=>WX d.name)=false->∀s',Ck s s' p->RP (Z0 7) s'):
 CE (EK LF) 45 [We ds] s R RP:=by
 obtain⟨hl,XT⟩:=Da hs;refine CE.unit (fn:=Tryz.f45) U (by kernel_rfl) U U U U ?_;have hE:s.enter.bound<=s.enter.next:=Qj _;refine Ew U<|Sb ?_;refine Ai (fun x:Nat×St=>([(6,.int .i64 (x.1:Nat)),(5,.int .i64 (ds.length:Nat)),(4,We ds)],x.2)) (fun x=>ds.length-x.1) (fun x=>x.1<=ds.length/\Ck s.enter x.2 p/\x.2.log=[]/\∀j (hj:j<ds.length),j<x.1->WX ds[j].name=true) (0,s.enter) ⟨Qm _,Ck.refl,rfl,fun _ _ h=>absurd h (Nat.not_lt_zero _)⟩ U (Ah (by repeat' constructor)) ?_;rintro⟨i,st⟩ ⟨hi,hg,ZE,ha⟩;dsimp only at hi hg ZE ha|-;have jn:=hg.Y2 hE;by_cases h:i<ds.length
 .have Yz:=A9 AS h;unfold Y9 at Yz;obtain⟨a1,a2,a3,a4,a5,a6,a7⟩:=Bg (st:=st) (z:=[.str [],.int .i64 0,.Ca]) (cs:=[.str ds[i].name,.int .i64 ds[i].params,CM XS 1 ds[i].cons]) (T:=54);have hit_104:LF 104 [.str ds[i].name]=some (.bool (WX ds[i].name)):=hq_104 (by have:=(XT i h).1;omega);have gI:Ck s.enter ((st.alloc (.cells [.str [],.int .i64 0,.Ca] 54 false)).put st.next (some (.cells [.str ds[i].name,.int .i64 ds[i].params,CM XS 1 ds[i].cons] 54 false))) p:=hg.trans (Ck.own jn rfl) hE;have lI:=(a6 jn).trans ZE;have bI:=gI.Y2 hE;focus
   refine Ew U<|Sq ?_;refine Cd U (fun h1=>?_) (fun h1=>?_);refine Sk<|Sq<|Sb<|Es<|Lq (kv U Yz) U<|Lv 1 U<|Lo (kz U) U<|Ln (kw U a1 U) U<|Ld<|Sr<|Lv 1 U<|Lo (kl U a2 U) U ?_;refine Lo (kc U (hit_104)) U<|Lv 1 U ?_;rotate_left;exact absurd h1 (by omega)
  refine BO fun sX WZ=>?_;have WZ:sX=(st.alloc (.cells [.str [],.int .i64 0,.Ca] 54 false)).put st.next (some (.cells [.str ds[i].name,.int .i64 ds[i].params,CM XS 1 ds[i].cons] 54 false)):=WZ;rw[<-WZ]at a2 gI lI bI;clear a1 a3 a4 a5 a6 a7 WZ;refine Af U U (by kernel_rfl) U U U U (Ej bI (fun hq=>?_) fun hq=>?_)
  .refine Ld ?_;refine Sr ?_;refine Lq (ka (b:=1) U (by omega)) U ?_;refine Lw U ?_;exact⟨(i+1,sX),⟨h,gI,lI,DH (P:=fun d=>WX d.name=true) (h:=h) ha (by cases hh:WX ds[i].name<;>simp_all)⟩,by show ds.length-(i+1)<ds.length-i;omega,rfl,rfl,Ah (by repeat' constructor)⟩
  .exact⟨rfl,hP (Ij h (by cases hh:WX ds[i].name<;>simp_all)) _ (gI.back hb)⟩
 .focus
   refine Ew U<|Sq ?_;refine Cd U (fun h1=>?_) (fun h1=>?_);exact absurd h1 (by omega);refine Sx<|A8 U ?_;rotate_left
  have Za:(ds.all fun d=>WX d.name)=true:=EC (f:=fun d:DT=>WX d.name) fun j hj=>ha j hj (by omega);exact⟨.inr U,rfl,fun _=>hR Za s Ck.refl,hR Za _ (hg.back hb)⟩
theorem Ud {s:St} {bl:Nat} {part:Bool} (hg:s.heap.get bl=some (.cells [.str [105,110,116]] 9 part)) (hl:bl<s.next) (hp:part=false) (hb:s.bound<=s.next) {R RP:AV->St->Prop}
 (hR:∀s',XB s s' (fun _=>False)->Ct s s'->NM s' bl s.next (s.next+1) (s.next+2) 0 .Ca->R (NF (s.next+1) (s.next+2) s.next) s'):CE (EK LF) 47 [.slice bl 0 1 1 (some 1)] s R RP:=by
 subst hp;refine Ar U ?_;have hE:s.enter.bound<=s.enter.next:=Qj _;refine Es<|Lo (AO U U U) U<|Lw U<|Es<|Lo (kz U) U<|Ld<|Es<|Lo (kz U) U ?_;refine BO fun sX WZ=>?_;have WZ:sX=((s.enter.alloc (.cells [.slice bl 0 1 1 (some 1)] 67 false)).alloc (.cells [.Ca] 67 false)).alloc (.cells [.int .i64 0] 3 false):=WZ;have x1:sX.heap.get s.next=some (.cells [.slice bl 0 1 1 (some 1)] 67 false):=by rw[WZ];exact(Ao (show s.next<s.next+2 by omega)).trans ((Ao (Nat.lt_succ_self _)).trans A4)
 have x2:sX.heap.get (s.next+1)=some (.cells [.Ca] 67 false):=by rw[WZ];exact(Ao (show s.next+1<s.next+2 by omega)).trans A4
 have x3:sX.heap.get (s.next+2)=some (.cells [.int .i64 0] 3 false):=by rw[WZ];exact A4
 have x0:sX.heap.get bl=some (.cells [.str [105,110,116]] 9 false):=by rw[WZ];exact(Ao (show bl<s.next+2 by omega)).trans ((Ao (show bl<s.next+1 by omega)).trans ((Ao hl).trans hg))
 have nX:sX.next=s.next+3:=by rw[WZ];rfl
 have cX:XB s.enter sX (fun _=>False):=by
  rw[WZ];exact(XB.alloc.trans XB.alloc (own:=fun _=>False) (o1:=fun _=>False) (o2:=fun _=>False) (fun _ h=>h) (fun _ h=>h.elim) hE).trans XB.alloc (o2:=fun _=>False) (fun _ h=>h) (fun _ h=>h.elim) hE
 have lX:Ct s.enter sX:=by
  rw[WZ];exact((Ct.alloc hE).trans (Ct.alloc (Nat.le_succ_of_le hE))).trans (Ct.alloc (Nat.le_succ_of_le (Nat.le_succ_of_le hE)))
 clear WZ;have cP:XB s.enter (sX.put (s.next+2) (some (.cells [.int .i64 0] 3 false))) (fun _=>False):=cX.trans XB.put (fun _ h=>h) (fun c h=> .inr (by rw[h];show s.next<=_;omega)) hE;have lP:=lX.trans (Ct.put (b:=s.next+2) (o:=some (.cells [.int .i64 0] 3 false)));have p0:∀c,c≠s.next+2->(sX.put (s.next+2) (some (.cells [.int .i64 0] 3 false))).heap.get c=sX.heap.get c:=fun c hc=>Aw.trans (if_neg hc);have Wk:(sX.put (s.next+2) (some (.cells [.int .i64 0] 3 false))).log=[]:=List.eq_nil_iff_forall_not_mem.2 fun c hc=>by
  rcases cP.log c hc with h|h
  .cases h
  .exact h.2
 have hM:NM (sX.put (s.next+2) (some (.cells [.int .i64 0] 3 false))) bl s.next (s.next+1) (s.next+2) 0 .Ca:=⟨(p0 _ (by omega)).trans x2,Grown.nil _ _ _,Aw.trans (if_pos rfl),(p0 _ (by omega)).trans x1,(p0 _ (by omega)).trans x0,hl,Nat.lt_succ_self _,Nat.lt_succ_self _,by show s.next+2<sX.next;omega,(fun _ h=>by cases h),Qm _⟩
 refine Ln (kw U x3 U) U<|Ld<|Ew U ?_;have hu:Cr s.next 40 (NF (s.next+1) (s.next+2) s.next)=false:=by
  show(Nat.blt (s.next+1) s.next&&_)=false;rw[show Nat.blt (s.next+1) s.next=false from(by
   cases h:Nat.blt (s.next+1) s.next with
   |false=>rfl
   |true=>
    have:s.next+2<=s.next:=Qc h;omega)];rfl
 exact Se (Al ⟨.inl U,_,U,_,Aa U U,.val (NF (s.next+1) (s.next+2) s.next) _,Si U Wk U hu,hR _ (XB.back cP) (Ct.back lP hb) ⟨hM.nm,hM.gr,hM.nx,hM.bt,hM.ls,hM.o1,hM.o2,hM.o3,hM.o4,hM.own,hM.le⟩⟩)
theorem Ck.ng {s s1 s2:St} {p bn bx:Nat} {v v':AV} (g:Ck s.enter s1 p) (h:Ng s1 s2 bn bx v v') (h1:s.next<=bn) (h2:s.next<=bx) (h3:∀c,C6 c v=true->s.next<=c):Ck s.enter s2 p:=
 ⟨g.Wh.trans h.Wh (fun _ h=>h) (fun c hc=> .inr (by
  rcases hc with rfl|rfl|hc
  .exact h1
  .exact h2
  .exact h3 c hc)) (Qj _),g.ax.trans h.ax⟩
theorem RE {ds:List DT} {t:KT} (hs:CD ds=true) (ht:X3 t=true) {s:St} {b0 b1 p:Nat} {e0:TypeId} (g0:s.heap.get b0=some (.cells [We ds] e0 false)) (g1:s.heap.get b1=some (.cells (Cm t) 26 false)) (l0:b0<s.next) (l1:b1<s.next) (hb:s.bound<=s.next) {R RP:AV->St->Prop}
 (hR:(VX ds t).2=0->∀s',Ck s s' p->R (.str (VX ds t).1) s') (hP:(VX ds t).2≠0->∀s',Ck s s' p->RP (Z0 (VX ds t).2) s'):CE (EK LF) 44 [.ptr b0 0,.ptr b1 0] s R RP:=by
 refine Ar U ?_;have hE:s.enter.bound<=s.enter.next:=Qj _;have hl:=(Da hs).1;have Xn:=F4 ht;have ee:=AA t;have qI:LF 32 [We ds]=some (.bool (Xr ds)):=hq_32 hs;have ou:LF 37 [We ds,.agg (Cm t)]=some (.bool (CG ds 20 t)):=hqc_37 (by omega) (by omega);have rD:=D9 hs;have ZW:CG ds 20 t=true->Y1 ds 20 t=true:=fun h=>(Bool.and_eq_true_iff.1 h).2;rw[ee]at ou g1;have g0:s.enter.heap.get b0=some (.cells [We ds] e0 false):=g0;have g1:s.enter.heap.get b1=some (.cells [.int .i64 t.op,.int .i64 t.n,CM Cm 3 t.kids] 26 false):=g1;unfold VX at hR hP;generalize CG ds 20 t=B at*;focus
  refine Ew U<|Es<|Lo (kl U g0 U) U ?_;refine Lo (kc U (qI)) U<|Lv 2 U ?_;refine Bb U (fun g2=>?_) (fun g2=>?_);have h2:=tb g2;refine Lv 5 U ?_;refine Af U U (by kernel_rfl) U U U U (FW ?_);rotate_left;have h2:=tc g2;refine Lg U U (kl U g0 U)<|Lg U U (kL U g1 U) ?_;refine Lg U U (kc U (ou))<|Lv 2 U ?_;refine BI (k:=11) U (fun g3=>?_) (fun g3=>?_);have h3:=tb g3;refine Af U U (by kernel_rfl) U U U U (FW ?_);rotate_left;have h3:=tc g3;refine Lo (Av U U (by kernel_rfl) U (FV)) U<|Ld<|Es<|Lo (kl U g0 U) U ?_;rotate_left
 .rw[if_neg (by rw[h2];simp)]at hP;exact⟨U,hP (by decide) s Ck.refl⟩
 .rw[if_neg (by rw[h3];simp)]at hP;exact⟨U,hP (by decide) s Ck.refl⟩
 rw[if_pos ⟨h2,h3⟩]at hR hP;refine Af U U (by kernel_rfl) U U U U (Ss hs (p:=s.next) hE (fun hg s1 G1=>?_) fun hg s1 G1=>?_);rotate_left
 .rw[if_neg (by rw[hg];decide)]at hP;exact⟨U,hP (by decide) _ ((Ck.refl.new G1 (Qj _)).back hb)⟩
 rw[if_pos hg]at hR;have q1:∀c,c<s.next->s1.heap.get c=s.enter.heap.get c:=fun c hc=>G1.Wh.heap c hc (by omega);have h0:=(q1 b0 l0).trans g0;have h1:=(q1 b1 l1).trans g1;have n1:s.next<=s1.next:=G1.Wh.next;have fM:=G1.Y2 hE;have GG:Ck s.enter s1 p:=Ck.refl.new G1 (Qj _);refine Ld<|Ag (by kernel_rfl)<|FO U U (AI ag_22 sz_22 h0 U) U (.inl U) U U<|Bh U MV HT pU U U U (.inl U) U U ?_;refine LD fun s2 oZ=>?_;have oZ:s2=s1.alloc (.cells [.str [105,110,116]] 9 false):=oZ;have c2:XB s1 s2 (fun _=>False):=by rw[oZ];exact XB.alloc
 have l2:Ct s1 s2:=by rw[oZ];exact Ct.alloc fM
 have i2:s2.heap.get s1.next=some (.cells [.str [105,110,116]] 9 false):=by rw[oZ];exact A4
 have n2:s2.next=s1.next+1:=by rw[oZ];rfl
 clear oZ;refine En (by kernel_rfl) U U U (Ud (s:=s2.sub s2.heap) i2 (by show s1.next<s2.next;omega) U (Qj _) (R:=fun x s'=>x=NF (s2.next+1) (s2.next+2) s2.next/\XB (s2.sub s2.heap) s' (fun _=>False)/\Ct (s2.sub s2.heap) s'/\NM s' s1.next s2.next (s2.next+1) (s2.next+2) 0 .Ca) (RP:=fun _ _=>False) fun s' c l m=>⟨rfl,c,l,m⟩) (sj (by kernel_rfl)) (by kernel_rfl) (.inl U) U U ?_ (fun _ _ h=>h.elim);rintro x s3 ⟨rfl,c3,l3,m3⟩;have gw:s2.bound<=s2.next:=by rw[c2.bound];exact Nat.le_trans fM c2.next
 obtain⟨z1,z2,G3,M3⟩:=(Ng.of (bn:=s2.next+1) (bx:=s2.next+2) (v:= .Ca) c3 l3).merged m3 gw;have Wk:∀c,c∉s3.log:=fun c hc=>by
  rcases c3.log c hc with h|h
  .cases h
  .exact h.2
 refine⟨z1,fun c hc=>absurd hc (Wk c),fun e he=> .inr (.inl (Wk _)),fun iD dx=>?_⟩;have k3:∀c,c<s2.next->(s2.merged s3).heap.get c=s2.heap.get c:=fun c hc=>G3.Wh.heap c hc fun h=>by
  rcases h with h|h|h
  .omega
  .omega
  .cases h
 have h14:=(k3 b1 (by omega)).trans ((c2.heap b1 (by omega) id).trans h1);have hbm:=G3.Y2 gw;generalize s2.merged s3=s4 at*;refine B5 U U (BM EI Dj h14 (Qj _)) (dx.clear (Ra (by omega) U) (by omega) (Wk _)) (.inl U) U U ?_;refine En (by kernel_rfl) U U (by rw[ee];rfl:_=some [We ds,NF (s2.next+1) (s2.next+2) s2.next,.agg (Cm t)]) (Fa (by omega) rD (Wo t) (s4.sub s4.heap) t 0 .Ca (fun x s'=>∃k' v',x= .str (dG ds false t)/\Ng (s4.sub s4.heap) s' (s2.next+1) (s2.next+2) .Ca v'/\NM s' s1.next s2.next (s2.next+1) (s2.next+2) k' v') (fun _ _=>False) (Qj _) (by omega) (ZW h3) ⟨M3.nm,M3.gr,M3.nx,M3.bt,M3.ls,M3.o1,M3.o2,M3.o3,M3.o4,M3.own,M3.le⟩ (Qj _) fun k' v' s' g m=>⟨k',v',rfl,g,m⟩) (sj (by kernel_rfl)) (dx.all (by kernel_rfl) (by kernel_rfl)) (.inl U) U U ?_ (fun _ _ h=>h.elim);rintro x s5 ⟨k',v',rfl,G5,M5⟩;obtain⟨y1,y2,G6,M6⟩:=G5.merged M5 hbm
 refine⟨y1,fun c hc=>(y2 c hc).1,fun e he=> .inr (.inl fun hm=>?_),fun nl3 hnl3=>?_⟩
 .rw[Qn.1 he]at hm;have hm:b0∈s5.log:=hm;rcases(y2 _ hm).2 with h|h|h
  .omega
  .omega
  .cases h
 generalize s4.merged s5=s6 at*;have G4:Ck s.enter s4 p:=(GG.ng (Ng.of (bn:=s2.next) (bx:=s2.next) (v:= .Ca) c2 l2) (by omega) (by omega) (fun _ h=>by cases h)).ng G3 (by omega) (by omega) (fun _ h=>by cases h);have G7:Ck s.enter s6 p:=G4.ng G6 (by omega) (by omega) (fun _ h=>by cases h);refine Nw U ?_;exact Se (Al ⟨.inl U,_,rfl,_,Aa U U,AL U (fun _ _=>rfl) (fun _=>rfl) (fun _=>hR U s Ck.refl) fun _=>hR U _ (G7.back hb)⟩)
theorem RC {ds:List DT} {t:KT} (hs:CD ds=true) (ht:X3 t=true):(VX ds t).1.length<=1000:=by
 have h1:=E0 (D9 hs) false t;have h2:=F4 ht;unfold VX;repeat' split
 all_goals dsimp only
 all_goals first|omega|exact Qm _
theorem N5 {ds:List DT} {t:KT} (hs:CD ds=true) (ht:X3 t=true) {s:St} {b0 b1 b2 p:Nat} {e0 e2:TypeId} (g0:s.heap.get b0=some (.cells [We ds] e0 false)) (g1:s.heap.get b1=some (.cells (Cm t) 26 false)) (g2:s.heap.get b2=some (.cells [.func (.func 44) [] [.ptr b0 0,.ptr b1 0]] e2 false))
 (gp:s.heap.get p=some (.cells [.str []] 9 false)) (l0:b0<s.next) (l1:b1<s.next) (l2:b2<s.next) (lp:p<s.next) (hb:s.bound<=s.next) {R RP:AV->St->Prop}
 (hR:(VX ds t).2=0->∀s',Ck s s' p->s'.heap.get p=some (.cells [.str (VX ds t).1] 9 false)->R (.tuple []) s') (hP:(VX ds t).2≠0->∀s',Ck s s' p->RP (Z0 (VX ds t).2) s'):CE (EK LF) 103 [.ptr b2 0,.ptr p 0] s R RP:=by
 refine CE.unit (fn:=Tryz.f103) U (by kernel_rfl) U U U U ?_;have hE:s.enter.bound<=s.enter.next:=Qj _;have g2:s.enter.heap.get b2=some (.cells [.func (.func 44) [] [.ptr b0 0,.ptr b1 0]] e2 false):=g2;have hlen:=RC hs ht;refine Es<|Lo (kl U g2 U) U ?_;refine Bo (by kernel_rfl) U U U U U U U U (RE hs ht (s:=s.enter) (p:=s.next) g0 g1 l0 l1 hE (fun h s1 G1=>?_) fun h s1 G1=>?_)
 .have hp:=(G1.Wh.heap p lp (by omega)).trans gp;have GG:Ck s.enter s1 p:=Ck.refl.new G1 (Qj _);generalize (VX ds t).1=W at*;have yU:(s1.put p (some (.cells [.str W] 9 false))).heap.get p=some (.cells [.str W] 9 false):=Aw.trans (if_pos rfl);focus
   refine Ln (kw U hp U) U<|Ld<|Sr<|Lo (kl U yU U) U<|Lq (Ac U U U U CT U) U<|Lv 1 U ?_;refine BI (k:=6) U (fun g3=>?_) (fun g3=>?_);have h3:=dT g3;exact absurd h3 (by omega);have h3:=dF g3;refine Lo (Av U U (by kernel_rfl) U (FV)) U<|Ld ?_;rotate_left
  exact⟨.inr U,rfl,fun hl=>absurd hl (B7 (.inr (by rw[GG.Wh.bound];exact lp))),hR h _ ((GG.trans Ck.put hE).back hb) yU⟩
 .exact⟨U,hP h _ ((Ck.refl.new G1 (Qj _)).back hb)⟩
theorem Po {ds:List DT} {t:KT} (hs:CD ds=true) (ht:X3 t=true) {s:St} {b0 b1:Nat} {e0:TypeId} (g0:s.heap.get b0=some (.cells [We ds] e0 false)) (g1:s.heap.get b1=some (.cells (Cm t) 26 false)) (l0:b0<s.next) (l1:b1<s.next) (hb:s.bound<=s.next) {R RP:AV->St->Prop}
 (hR:∀s',Ck s s' s.next->R (jB (VX ds t)) s'):CE (EK LF) 43 [.func (.func 44) [] [.ptr b0 0,.ptr b1 0]] s R RP:=by
 refine Ar U ?_;have hE:s.enter.bound<=s.enter.next:=Qj _;refine Es<|Lo (AO U U U) U<|Lw U<|Es<|Lo (kz U) U ?_;refine BO fun sX WZ=>?_;have WZ:sX=(s.enter.alloc (.cells [.func (.func 44) [] [.ptr b0 0,.ptr b1 0]] 108 false)).alloc (.cells [.str []] 9 false):=WZ;have x1:sX.heap.get s.next=some (.cells [.func (.func 44) [] [.ptr b0 0,.ptr b1 0]] 108 false):=by rw[WZ];exact(Ao (Nat.lt_succ_self _)).trans A4
 have x2:sX.heap.get (s.next+1)=some (.cells [.str []] 9 false):=by rw[WZ];exact A4
 have q1:∀c,c<s.next->sX.heap.get c=s.heap.get c:=fun c hc=>by rw[WZ];exact(Ao (show c<s.next+1 by omega)).trans (Ao hc)
 have nX:sX.next=s.next+2:=by rw[WZ];rfl
 have gX:Ck s.enter sX s.next:=by rw[WZ];exact(Ck.alloc hE).trans (Ck.alloc (Nat.le_succ_of_le hE)) hE
 clear WZ;refine Ln (kw U x2 U) U<|Ld ?_;refine Aq fun sP sq=>?_;have sq:sP=sX.put (s.next+1) (some (.cells [.str []] 9 false)):=sq;have p0:∀c,c≠s.next+1->sP.heap.get c=sX.heap.get c:=fun c hc=>by rw[sq];exact Aw.trans (if_neg hc)
 have p1:sP.heap.get (s.next+1)=some (.cells [.str []] 9 false):=by rw[sq];exact Aw.trans (if_pos rfl)
 have nP:sP.next=s.next+2:=by rw[sq];exact nX
 have gP:Ck s.enter sP s.next:=by rw[sq];exact gX.XD (Nat.le_succ _) hE
 clear sq;have hbP:=gP.Y2 hE;have h0:=(p0 b0 (by omega)).trans ((q1 b0 l0).trans g0);have h1:=(p0 b1 (by omega)).trans ((q1 b1 l1).trans g1);have h2:=(p0 s.next (by omega)).trans x1;have oA:∀c,c<sP.next->(sP.enter.alloc (.cells [.int .i64 0] 31 false)).heap.get c=sP.heap.get c:=fun c hc=>Ao hc;have nA:(sP.enter.alloc (.cells [.int .i64 0] 31 false)).next=sP.next+1:=rfl;have bA:(sP.enter.alloc (.cells [.int .i64 0] 31 false)).bound=sP.next:=rfl;refine Es<|Lv 1 U ?_;refine Af U U (by kernel_rfl) U U U U (JA (p:=s.next+1) (Q:=fun o c=>match o with
  |none=>(VX ds t).2=0/\c=some (.cells [.str (VX ds t).1] 9 false)
  |some e=>(VX ds t).2=e/\e≠0) (by kernel_rfl) hbP (by omega) (N5 hs ht ((oA b0 (by omega)).trans h0) ((oA b1 (by omega)).trans h1) ((oA s.next (by omega)).trans h2) ((oA (s.next+1) (by omega)).trans p1) (by omega) (by omega) (by omega) (by omega) (by omega) (fun hq s' g c=>⟨rfl,g,hq,c⟩) fun hq s' g=>⟨_,rfl,g,rfl,hq⟩) fun o s' g q=>?_)
 have gg:Ck s.enter s' s.next:=gP.new g (Nat.le_succ _);cases o with
 |none=>
  obtain⟨q1,q2⟩:=q;have e:jB (VX ds t)= .tuple [.str (VX ds t).1,.int .i64 0]:=by unfold jB;rw[q1]
  rw[e]at hR;refine Lw U<|Sq<|Ew U<|Tf U<|Sk<|Es<|Lo (kl U q2 U) U<|Lw U ?_;exact Se (Al ⟨.inl U,_,rfl,_,Aa U (Aa U U),AL U (fun _ _=>rfl) (fun _=>rfl) (fun _=>hR s Ck.refl) fun _=>hR _ (gg.back hb)⟩)
 |some e=>
  obtain⟨q1,q2⟩:=q;have e1:jB (VX ds t)= .tuple [.str [],.int .i64 e]:=by unfold jB;rw[RD (by rw[q1];exact q2),q1]
  rw[e1]at hR;focus
   refine Lw U<|Sq<|Ew U ?_;refine Ce U (fun h2=>?_) (fun h2=>?_);refine Ew U ?_;rotate_left;refine Sk<|Es ?_;rotate_left
  .exact Se (Al ⟨.inl U,_,rfl,_,Aa U (Aa U U),AL U (fun _ _=>rfl) (fun _=>rfl) (fun _=>hR s Ck.refl) fun _=>hR _ (gg.back hb)⟩)
  .exact absurd h2 q2
theorem xR (ds:List DT) (t:KT) (hs:CD ds=true) (ht:X3 t=true):Cc (EK LF) 11 [We ds,.agg (Cm t)] S0 (jB (VX ds t)):=by
 have ee:=AA t;rw[ee];refine As U<|Eh U<|Es<|Lv 1 U ?_;refine BO fun sX WZ=>?_;have h0:sX.heap.get 0=some (.cells [We ds] 22 false):=by rw[WZ];exact(AD 0).trans rfl
 have h1:sX.heap.get 1=some (.cells (Cm t) 26 false):=by rw[WZ,ee];exact(AD 1).trans rfl
 have nX:sX.next=2:=by rw[WZ];rfl
 have bX:sX.bound=0:=by rw[WZ];rfl
 have lX:sX.log=[]:=by rw[WZ];rfl
 clear WZ;refine Af U U (by kernel_rfl) U U U U (Po hs ht h0 h1 (by omega) (by omega) (by omega) fun s' g=>?_);have l':s'.log=[]:=List.eq_nil_iff_forall_not_mem.2 fun c hc=>by
  rcases g.Wh.log c hc with h|h
  .rw[lX]at h;cases h
  .omega
 have b':s'.bound=0:=g.Wh.bound.trans bX;obtain⟨w,e⟩:=VX ds t;unfold jB;dsimp only;refine Lw U ?_;refine Se ⟨.inl U,U,l',b',_,_,_,(Aa U (Aa U U)),U,U,?_⟩;rfl
end Go.Proofs.YtfhimfcbphepeaaGreatDoor.Ty
