/- Printing, part 7. -/
import Derived.Test.YtfhimfcbphepeaaGreatDoorCdA
import Derived.Test.YtfhimfcbphepeaaGreatDoorCdF
set_option linter.unusedSectionVars false
set_option linter.unusedVariables false
set_option linter.unusedSimpArgs false
open Go Am
namespace Go.Proofs.YtfhimfcbphepeaaGreatDoor.Ty
class BldT (e:TypeId):Prop where
 ok:e=209
instance:BldT 209:=⟨rfl⟩
section
variable {K : FuncId -> List AV -> Option AV} {e0 : TypeId} [BldT e0]
theorem HO (hK:K 218=fun _=>none) {s:St} {b0:Nat} {a v:AV} (hg:s.heap.u b0=some (.J [a,v] e0 false)) (ha:a= .Ys\/a= .Z b0 0) (hn:b0<s.a) {R:AV->St->Prop}
 (hR:∀s',YS s s' (fun c=>c=b0)->s'.a=s.a->s'.heap.u b0=some (.J [.Z b0 0,v] e0 false)->(b0<s.b->s'.c≠ []\/a= .Z b0 0)->(s.b<=s.a->Cu s s')->R (.O []) s'):CD (EK K) 218 [.Z b0 0] s R:=by
 refine CD.unit (fn:=Tryz.f218) (by show K 218 _=none;rw[hK]) U U U U U ?_;have jd:s.u.heap.u b0=some (.J [a,v] e0 false):=hg;rcases ha with rfl|rfl
 .refine Es<|Lv 3 U<|Lo (kl U jd U) U<|Lo (Lc (neg:=false) U Vn Of U U U) U<|Ld<|Tt U<|Sr<|Lv 2 U<|Lo (Q6 U Vn u_298 Of U (v:= .Z b0 0) (by show(Y4 (s.u.heap.u b0)).bind _=_;rw[jd];rfl)) U<|Lq (Zm.same (x:= .tmp 9) U U) U<|Lo (L6 U u_298 Vn Of U (v:= .Z b0 0) (by show iA _ _ _ _ (s.u.heap.u b0)=_;rw[jd];obtain rfl:=BldT.ok (e:=e0);kernel_rfl)) U<|Lv 2 U<|Ln (kw U jd U) U<|Ld ?_;refine⟨.inr U,rfl,fun h=>absurd h (Gr (s:=s.u) hn),hR _ (YS.B (s:=s.u)).A U ?_ ?_ fun h=>Cu.A.G h⟩
  .show(s.u.B b0 _).heap.u b0=_;rw[AF,if_pos rfl]
  .intro hb;refine .inl ?_;have vO:Nat.blt b0 s.a=true:=Qd hn;have tf:Nat.blt b0 s.b=true:=Qd hb;show below s.b (bif Nat.blt b0 s.a then [b0]else []) s.c≠ [];rw[vO];show(bif Nat.blt b0 s.b then b0::s.c else s.c)≠ [];rw[tf];simp
 .refine Es<|Lv 3 U<|Lo (kl U jd U) U<|Lo (Lc (neg:=false) U Vn Of U U U) U<|Ld<|Tf U<|Es<|Lv 3 U<|Lo (kl U jd U) U<|qm U<|Lo (Lc (neg:=true) U Vn Of U U (v:= .bool false) (by show au true (bif Nat.beq b0 b0 then some (Nat.beq 0 0)else _)=_;rw[Nat.beq_refl];rfl)) U<|Ld<|Tf U<|Sk ?_;exact⟨.inr U,rfl,fun _=>hR s ⟨Qj _,rfl,fun _ h=> .inl h,fun _ _ _=>rfl⟩ U hg (fun _=> .inr U) fun _=>Cu.B,hR _ ⟨Qj _,rfl,fun _ h=> .inl h,fun _ _ _=>rfl⟩ U hg (fun _=> .inr U) fun h=>Cu.G (st:=s.u) Cu.B h⟩
theorem Jr (hK:K 137=fun _=>none) (hK1:K 218=fun _=>none) {s:St} {b0:Nat} {a v:AV} {w x:List UInt8} (hg:s.heap.u b0=some (.J [a,v] e0 false)) (ha:a= .Ys\/a= .Z b0 0)
 (hn:b0<s.a) (hv:ig s 5 v w) (x9:CT b0 v=false) (en:w.length+x.length<=1099511627776) {R:AV->St->Prop}
 (hR:∀s' v',YS s s' (fun c=>c=b0\/CT c v=true)->s'.heap.u b0=some (.J [.Z b0 0,v'] e0 false)->ig s' 5 v' (w++x)->(∀c,CT c v'=true->CT c v=true\/s.a<=c)->(b0<s.b->s'.c≠ [])->(s.b<=s.a->Cu s s')->R (.O [.int .i64 (x.length:Nat),.Yk]) s'):
 CD (EK K) 137 [.Z b0 0,.J x] s R:=by
 refine CD.gen (fn:=Tryz.f137) (by show K 137 _=none;rw[hK]) U U U U U<|Ew U<|Es<|qm U<|kf U (HO hK1 (s:=s.u) hg ha hn ?_);intro s1 uL gM ff nI hL1;have qG:ig s1 5 v w:=hv.aI (s:=s.u) uL.a fun c hc=>uL.heap c (hv.own hc) fun h=>by rw[h,x9]at hc;cases hc
 refine Ld<|Es<|Lv 4 U<|Lo (kl U ff U) U<|qm U ?_;obtain⟨v',s2,happ,jA,hnx2,xh,ux,hlg2,hhp2⟩:=qG.append en;have ru:s2.heap.u b0=some (.J [.Z b0 0,v] e0 false):=(hhp2 b0 (by rw[gM];exact hn) x9).trans ff;refine Lo (ZU.append U U U U D8 DF by_5 z_5 U U U U (new:=d_ x) (n:=x.length) (by show(bif Nat.beq 1 1 then some (d_ x,ZA x)else none)=_;rw[BV];rfl) happ) U ?_;have xL:v'.A=false/\v'.u.length=1/\over v'.u (0+1) [.Z b0 0,v]=some [.Z b0 0,v']:=by
  rcases jA with⟨rfl,_⟩|⟨_,rfl,_⟩|⟨_,rfl,_⟩<;>exact⟨rfl,rfl,rfl⟩
 refine Lv 2 U<|Ln (Ek U sz_207 U U (DU ru xL.2.1 xL.1 xL.2.2)) U<|Ld<|Es<|qm U<|Lq (Az U U U U Zr U) U<|Lw U<|Se ?_;have h12:YS s1 s2 (fun c=>CT c v=true):=⟨hnx2,xh,hlg2,fun c hc ho=>hhp2 c hc (by simpa using ho)⟩
 have h3:=(uL.trans h12 (own:=fun c=>c=b0\/CT c v=true) (fun _ h=> .inl h) (fun _ h=> .inl (.inr h)) (Qj _)).trans (YS.B (s:=s2) (b:=b0) (o:=some (.J [.Z b0 0,v'] e0 false))) (own:=fun c=>c=b0\/CT c v=true) (fun _ h=>h) (fun _ h=> .inl (.inl h)) (Qj _);have uN:∀c,CT c v'=true->c≠b0:=fun c hc h=>by
  rcases ux c hc with h1|h1
  .rw[h,x9]at h1;cases h1
  .have:s1.a=s.a:=gM;omega
 refine⟨.inl U,_,rfl,_,Aa U (Aa U U),_,FN U (Gr (by rw[xh,uL.b];exact hn)),hR _ v' h3.A ?_ ?_ ?_ (fun h=>RD (Dn (by rw[xh,uL.b];exact hn)) h) fun h=>Cu.G (((hL1 (Qj _)).trans (F3 (by rw[uL.b,gM];exact Qj _) happ)).trans Cu.A) h⟩
 .show(s2.B b0 _).heap.u b0=_;rw[AF,if_pos rfl]
 .exact jA.aI (Qj _) fun c hc=>by
   show(s2.B b0 _).heap.u c=_;rw[AF,if_neg (uN c hc)]
 .intro c hc;refine(ux c hc).imp id fun h=>?_;have:s1.a=s.a:=gM;omega
theorem text_run (hK:K 141=fun _=>none) {s:St} {b0:Nat} {a v:AV} {w:List UInt8} (hg:s.heap.u b0=some (.J [a,v] e0 false))
 (hn:b0<s.a) (hv:ig s 5 v w) (en:w.length<=1099511627776) {R:AV->St->Prop} (hR:∀s',YS s s' (fun c=>CT c v=true)->R (.J w) s'):
 CD (EK K) 141 [.Z b0 0] s R:=by
 refine CD.gen (fn:=Tryz.f141) (by show K 141 _=none;rw[hK]) U U U U U ?_;have jd:s.u.heap.u b0=some (.J [a,v] e0 false):=hg;refine Ew U<|Af U<|Nv 3 U<|Nm U jd U (.inl U) U ?_;obtain⟨d,s2,hd,hraw,fB,aO,Z9,hhp,hlen⟩:=(show ig (s.u.J s.u.heap) 5 v w from hv.aI (Qj _) fun _ _=>rfl).text (E:=EK K) Po;refine I7 (Ye (f:=fun T=>(Ch (EK K) (.tmp 6) T).bind ra) (v:=d) U fun T hT=>by
  rw[Ae (x:= .tmp 6) (v:=v) hT rfl];show ra v=_;unfold ra;rw[hd]) (.inl rfl) rfl rfl<|Nv 3 U<|Nm U jd U (.inl U) U<|Nq (kn U hlen) U ?_;have hble:Nat.ble w.length 1099511627776=true:=Qd en;have xO:YS (s.u.J s.u.heap) s2 (fun c=>CT c v=true):=⟨Nat.le_of_eq fB.symm,aO,Z9,fun c _ ho=>hhp c (by simpa using ho)⟩
 refine T9 (x:=Ch (EK K) (.tmp 7)) (f:=fun T s=>(Ch (EK K) (.tmp 7) T).bind fun a=>(Ch (EK K) (.tmp 12) T).bind fun b=>(Ze b).bind fun n=>bif Nat.ble n 1099511627776 then kg s (EK K) 5 n a else none) (v:= .J w) (s2:=s2) U
  (fun T hT=>E6 (b:=false) (x:=Ch (EK K) (.tmp 7)) (f:=fun T s=>(Ch (EK K) (.tmp 7) T).bind fun a=>(Ch (EK K) (.tmp 12) T).bind fun b=>(Ze b).bind fun n=>bif Nat.ble n 1099511627776 then kg s (EK K) 5 n a else none) U (by
   rw[Ae (x:= .tmp 7) (v:=d) hT rfl,Ae (x:= .tmp 12) (v:= .int .i64 (w.length:Nat)) hT rfl];have hnat:Ze (.int .i64 (w.length:Nat))=some w.length:=rfl;simp only[Qe,hnat,hble,cond_true,hraw]))
  (Nat.le_of_eq fB.symm) (fun c hc=>⟨by
   rcases Z9 c hc with h|⟨h,_⟩
   .cases h
   .exact h,U⟩) U U (.inl U) U U ?_
 refine Nw U<|Se ?_;exact⟨.inl U,_,rfl,_,rfl,AQ U (fun _ _=>rfl) (fun _=>rfl) (fun _=>hR s YS.I) fun _=>hR _ (YS.A (YS.G xO))⟩
theorem U6 (hK:K 258=fun _=>none) {s:St} {b0:Nat} {a:AV} {n:Nat} (hg:s.heap.u b0=some (.J [a,.Ca] e0 false)) (hn:b0<s.a) (h0:0<n) (en:n<=1099511627776) {R:AV->St->Prop}
 (hR:∀s' v,YS s s' (fun c=>c=b0)->s'.heap.u b0=some (.J [a,v] e0 false)->ig s' 5 v []->(∀c,CT c v=true->s.a<=c)->(b0<s.b->s'.c≠ [])->R (.O []) s'):
 CD (EK K) 258 [.Z b0 0,.int .i64 (n:Nat)] s R:=by
 refine CD.gen (fn:=Tryz.f258) (by show K 258 _=none;rw[hK]) U U U U U ?_;have jd:s.u.heap.u b0=some (.J [a,.Ca] e0 false):=hg;refine Af U<|Nv 3 U<|Nm U jd U (.inl U) U<|Nq (Yg U U U U D8 U U) U<|Nq (NT (a:=2) (b:=0) U aP U U (by omega)) U<|Nv 1 U<|Nq (ka (a:=0) U (by omega)) U ?_;rw[show 0+n=n from Nat.zero_add n];have hblt:Nat.blt 0 n=true:=Qd h0;have hble:Nat.ble n 1099511627776=true:=Qd en;refine KX (f:=fun T=>(Ch (EK K) (.tmp 12) T).bind (pf 5)) (ob:= .J [] 5 true) (g:=fun i=> .slice i 0 n 1 none) U (fun T hT=>by
  rw[Ae (x:= .tmp 12) (v:= .int .i64 (n:Nat)) hT rfl];show(bif Nat.blt 0 n&&Nat.ble n 1099511627776 then _ else _)=_;rw[hblt,hble];rfl) (.inl rfl) rfl rfl ?_
 have ZT:b0≠s.u.a:=Nat.ne_of_lt hn;have ru:(s.u.A (.J [] 5 true)).heap.u b0=some (.J [a,.Ca] e0 false):=by
  show(s.heap.A s.a _).u b0=_;rw[Ap,if_neg (show b0≠s.a from ZT)];exact hg
 have hg3:(s.u.A (.J [] 5 true)).heap.u s.u.a=some (.J [] 5 true):=by
  show(s.heap.A s.a _).u s.a=_;rw[Ap,if_pos rfl]
 refine Nv 3 U<|AI U U (A4 ag_207 sz_207 ru U) (Aae ZT U) (.inl U) U U<|Nv 1 U<|NP (x:=Ch (EK K) (.tmp 13)) (f:=fun T s=>(Ch (EK K) (.tmp 13) T).bind fun a=>(Zg (EK K) none T).bind fun l=>(Zg (EK K) (some (.tmp 18)) T).bind fun h=>(Zg (EK K) none T).bind fun m=>YX s 1 l h m a) (b:=s.u.a) (v:= .slice s.u.a 0 0 1 (some 0)) U
  (fun T hT=>Ae (x:= .tmp 13) (v:= .slice s.u.a 0 n 1 none) hT rfl) rfl (fun T hT=>by
   rw[Ae (x:= .tmp 13) (v:= .slice s.u.a 0 n 1 none) hT rfl];have h18:Zg (EK K) (some (.tmp 18)) T=some (some (.int .i64 ((0:Nat):Int))):=LV (Ae (x:= .tmp 18) hT rfl);have bG:Zg (EK K) none T=some none:=rfl;simp only[Qe,bG,h18];have YO:Y4 (((s.u.A (.J [] 5 true)).J (Tr.A .J s.u.a ((s.u.A (.J [] 5 true)).heap.u s.u.a))).heap.u s.u.a)=some []:=by
    show Y4 ((Tr.A .J s.u.a ((s.u.A (.J [] 5 true)).heap.u s.u.a)).u s.u.a)=_;rw[Ap,if_pos rfl,hg3];rfl
   unfold YX;simp only[Nat.beq_refl,cond_true,YO,Qe];rfl) (KE U rfl) (.inl rfl) rfl rfl ?_
 refine Nw U<|Es<|Lv 4 U<|Lo (kl U ru U) U ?_;generalize dt:s.u.A (.J [] 5 true)=s1 at ru hg3|-;have oU:s1.a=s.a+1:=by rw[<-dt];rfl
 have hcp:copyV s1 1 ([],0) (.slice s.u.a 0 0 1 (some 0))=some (.int .i64 ((0:Nat):Int),s1.B s.u.a (some (.J [] 5 true))):=by
  show(jU s1 s.u.a 0 [] (s1.heap.u s.u.a)).bind _=_;rw[hg3];rfl
 refine Lo (ZU.copy U U U U D8 DF U U U hcp) U ?_;have hg4:(s1.B s.u.a (some (.J [] 5 true))).heap.u b0=some (.J [a,.Ca] e0 false):=by rw[AF,if_neg ZT];exact ru
 refine Ld<|Sr<|Lv 4 U<|Ln (kw U hg4 U) U<|Ld ?_;have eE:(s1.B s.u.a (some (.J [] 5 true))).b=s.a:=by rw[<-dt];rfl
 have xO:YS s.u ((s1.B s.u.a (some (.J [] 5 true))).B b0 (some (.J [a,.slice s.u.a 0 0 1 (some 0)] e0 false))) (fun c=>c=b0):=by
  refine⟨by show s.a<=s1.a;omega,eE,fun c hc=>?_,fun c hc ho=>?_⟩
  .rcases Ds hc with h|⟨h,h2⟩
   .rcases Ds h with h|⟨h,h2⟩
    .rw[<-dt]at h;exact .inl h
    .rw[<-dt]at h2;have:c<s.a:=h2;have h':c=s.a:=h;omega
   .exact .inr ⟨by rw[eE]at h2;exact h2,h⟩
  .have hc':c≠s.u.a:=Nat.ne_of_lt hc;rw[AF,if_neg ho,AF,if_neg hc',<-dt];show(s.heap.A s.a _).u c=_;rw[Ap,if_neg (show c≠s.a from hc')];rfl
 refine⟨.inr U,_,rfl,[],rfl,AQ U (fun _ _=>rfl) (fun _=>rfl) (fun h=>absurd h (Gr (by rw[eE];exact hn))) fun _=>hR _ (.slice s.u.a 0 0 1 (some 0)) xO.A ?_ ?_ ?_ fun h=>RD (Dn (by rw[eE];exact hn)) h⟩
 .show(St.B _ b0 _).heap.u b0=_;rw[AF,if_pos rfl]
 .refine .inr (.inl ⟨s.u.a,U,U,by show s.a<s1.a;omega,?_⟩);show(St.B (St.B s1 _ _) b0 _).heap.u s.u.a=_;rw[AF,if_neg ZT.symm,AF,if_pos rfl]
 .intro c hc;have:s.a=c:=Qb hc;omega
theorem grow_run (hK:K 219=fun _=>none) (hK1:K 218=fun _=>none) (hK2:K 258=fun _=>none) {s:St} {b0:Nat} {a:AV} {n:Nat} (hg:s.heap.u b0=some (.J [a,.Ca] e0 false))
 (ha:a= .Ys\/a= .Z b0 0) (hn:b0<s.a) (en:n<=1099511627776) {R:AV->St->Prop}
 (hR:∀s' v,YS s s' (fun c=>c=b0)->s'.heap.u b0=some (.J [.Z b0 0,v] e0 false)->ig s' 5 v []->(∀c,CT c v=true->s.a<=c)->R (.O []) s'):
 CD (EK K) 219 [.Z b0 0,.int .i64 (n:Nat)] s R:=by
 refine CD.gen (fn:=Tryz.f219) (by show K 219 _=none;rw[hK]) U U U U U<|Es<|qm U<|kf U (HO hK1 (s:=s.u) hg ha hn ?_);intro s1 uL gM ff nI _;refine Ld<|Sq<|Ew U<|Tf U<|Sk<|Af U<|Nv 3 U<|Nm U ff U (.inl U) U<|Nq (Yg U U U U D8 U U) U ?_;focus
  refine Nv 3 U<|Nm U ff U (.inl U) U<|Nv 1 U<|Nq (Aq (a:=0) (b:=0) U aP U U (by omega)) U<|Nw U<|Cd U (fun h1=>?_) (fun h1=>?_);refine Sr<|Lv 2 U ?_;rotate_left;refine Sk ?_;rotate_left
 .have h0:0<n:=by simpa using h1
  refine kf U (U6 hK2 ff (by rw[gM];exact hn) h0 en ?_);intro s2 v qA ru jA ux mf;refine Ld ?_;have hc:=uL.trans qA (own:=fun c=>c=b0) (fun _ h=>h) (fun _ h=> .inl h) (Qj _);have tq:∀c,CT c v=true->s.a<=c:=fun c h=>by have:=ux c h;rw[gM]at this;exact this
  refine⟨.inr U,_,rfl,[],rfl,AQ U (fun _ _=>rfl) (fun _=>rfl) (fun h=>?_) fun _=>hR _ v hc.A ru (jA.aI (Qj _) fun _ _=>rfl) tq⟩;exact absurd h (mf (by rw[uL.b];exact hn))
 .have h0:n=0:=by simpa using h1
  refine⟨.inr U,_,rfl,[],rfl,AQ U (fun _ _=>rfl) (fun _=>rfl) (fun h=>?_) fun _=>hR _ .Ca uL.A ff (.inl ⟨rfl,rfl⟩) fun c hc=>by cases hc⟩;rcases nI hn with h'|h'
  .exact absurd h h'
  .rw[h']at hg;exact hR s .Ca YS.I hg (.inl ⟨rfl,rfl⟩) fun c hc=>by cases hc
end
theorem Oh {l:List (List UInt8)} {i:Nat} (h:i<l.length):aK (l.take (i+1))=aK (l.take i)+l[i].length:=by
 unfold aK;rw[List.take_succ_eq_append_getElem h,List.map_append,List.sum_append];simp
section
variable {K : FuncId -> List AV -> Option AV}
theorem join_run (hK:K 139=fun _=>none) (hK1:K 219=fun _=>none) (hK2:K 218=fun _=>none) (hK3:K 258=fun _=>none) (hK4:K 137=fun _=>none)
 (hK5:K 141=fun _=>none) {s:St} {v:AV} {l:List (List UInt8)} {sep:List UInt8} (hv:aJ s v l) (wJ:aK l+(sep.length+1)*(l.length+1)<=1099511627776) {R:AV->St->Prop} (hR:R (.J (vW sep l)) s):
 CD (EK K) 139 [v,.J sep] s R:=by
 refine CD.gen (fn:=Tryz.f139) (by show K 139 _=none;rw[hK]) U U U U U ?_;have hve:aJ s.u v l:=hv.aI (Qj _) fun _ _=>rfl;have hlen:=hve.len;focus
  refine Ew U<|Sq<|Es<|qm U<|Lq (kn U hlen) U<|Ld<|Sb<|Ew U<|Cd U (fun h1=>?_) (fun h1=>?_);refine Ew U ?_;rotate_left;refine Ew U<|Cd U (fun h2=>?_) (fun h2=>?_);refine Es<|qm U ?_;rotate_left;refine Sk<|Ew U ?_;rotate_left
 .
  have hl:l=[]:=by cases l with|nil=>rfl|cons _ _=>simp at h1;omega
  subst hl;refine Se ?_;exact⟨.inl U,_,rfl,_,Aa U U,AQ U (fun _ _=>rfl) (fun _=>rfl) (fun _=>hR) fun h=>absurd U h⟩
 .
  obtain⟨a,rfl⟩:∃a,l=[a]:=by
   match l,h2 with
   | [a],_=>exact⟨a,rfl⟩
  obtain⟨p,hp,ZV⟩:=hve.at (E:=EK K) (i:=0) (by simp) s9 Ia;refine Lq (kv (k:=0) U hp) U<|Lo (Bs U U ZV) U<|Lw U<|Se ?_;refine⟨.inl U,_,rfl,_,Aa U U,AQ U (fun _ _=>rfl) (fun _=>rfl) (fun _=>?_) fun h=>absurd U h⟩;have:vW sep [a]=a:=List.append_nil a;rw[this]at hR;exact hR
 .
  have hm:2<=l.length:=by omega
  have hprod:sep.length*(l.length-1)+l.length<=(sep.length+1)*(l.length+1):=by
   have h1:sep.length*(l.length-1)<=sep.length*(l.length+1):=Nat.mul_le_mul_left _ (by omega);rw[Nat.add_mul,Nat.one_mul];omega
  have wL:aK l+sep.length*(l.length-1)+l.length<=1099511627776:=by omega
  have hsep:sep.length<=sep.length*(l.length-1):=Nat.le_mul_of_pos_right _ (by omega);have hq:sep.length<9223372036854775807/(l.length-1):=by
   refine Nat.lt_of_succ_le ((Nat.le_div_iff_mul_le (by omega)).2 ?_);rw[Nat.succ_mul];omega
  refine CA.cut [(5,.int .i64 ((sep.length*(l.length-1):Nat):Int)),(0,v),(1,.J sep)] s.u ?_ ?_
  .focus
    refine Es<|qm U<|Lq (Az U U U U Zr U) U<|Lw U<|Cd U (fun h3=>?_) (fun h3=>?_);refine Sq<|Es<|qm U<|Lq (Az U U U U Zr U) U<|qm U<|Lq (kn U hlen) U<|Lq (Aq (b:=1) U aP U U (by omega)) U<|Lq (Jo (a:=9223372036854775807) U aP U U (by omega)) U<|Lw U<|Cd U (fun h4=>?_) (fun h4=>?_);omega;refine Sk<|Sr<|Lv 2 U<|Lq (Az U U U U Zr U) U<|qm U<|Lq (kn U hlen) U<|Lq (Aq (b:=1) U aP U U (by omega)) U<|Lq (NT U aP U U (by omega)) U<|Lq (ka (a:=0) U (by omega)) U<|Lw U ?_;rotate_left;refine Sk ?_;rotate_left
   .refine⟨U,U,U,?_⟩;rw[show 0+sep.length*(l.length-1)=sep.length*(l.length-1)from Nat.zero_add _]
    (refine Am.Ac ?_;repeat (first|exact trivial|refine⟨rfl,?_⟩))
   .have h0:sep.length=0:=by omega
    refine⟨U,U,U,?_⟩;rw[h0,Nat.zero_mul]
    (refine Am.Ac ?_;repeat (first|exact trivial|refine⟨rfl,?_⟩))
  .refine Sq<|Es<|qm U<|Lq (kn U hlen) U<|Lw U<|Sb ?_;generalize se:sep.length*(l.length-1)=n0 at*;refine Ai (fun i:Nat=>([(41,.int .i64 (i:Nat)),(40,.int .i64 (l.length:Nat)),(39,v),(5,.int .i64 ((n0+aK (l.take i):Nat):Int)),(0,v),(1,.J sep)],s.u)) (fun i=>l.length-i) (fun i=>i<=l.length) 0 (Qo _) U (by rw[show aK (l.take 0)=0 from rfl,Nat.add_zero];(refine Am.Ac ?_;repeat (first|exact trivial|refine⟨rfl,?_⟩))) fun i hi=>?_;have h6:=EG (l:=l) i;focus
    refine Ew U<|Sq<|Cd U (fun h3=>?_) (fun h3=>?_);refine Sk<|Sq<|Sb<|Es ?_;rotate_left;refine Sx<|Ax U<|Es<|Lo (kz U) U<|Ld<|Es<|qm U ?_;rotate_left
   .have C8:i<l.length:=by omega
    obtain⟨p,hp,ZV⟩:=hve.at (E:=EK K) C8 s9 Ia;have h5:=Oh C8;have h7:=EG (l:=l) (i+1);focus
     refine Lq (kv U hp) U<|Lo (Bs U U ZV) U<|Lw U<|Sq<|Es<|qm U<|Lq (Az U U U U Zr U) U<|qm U<|Lq (Aq (a:=9223372036854775807) U aP U U (by omega)) U<|Lw U<|Cd U (fun h4=>?_) (fun h4=>?_);omega;refine Sk<|Sr<|Lv 2 U<|Lq (Az U U U U Zr U) U<|Lq (ka U (by omega)) U<|Lw U<|Sr<|Lq (ka (b:=1) U (by omega)) U<|Lw U ?_;rotate_left
    refine⟨i+1,C8,by omega,U,U,?_⟩;rw[h5,<-Nat.add_assoc]
    (refine Am.Ac ?_;repeat (first|exact trivial|refine⟨rfl,?_⟩))
   .have tG:i=l.length:=by omega
    rw[tG,List.take_length]
    match l,hm with
    |a::b::l',_=>
    have hrl:(a::b::l').length=(b::l').length+1:=rfl;have lJ:aK (a::b::l')=a.length+aK (b::l'):=by simp[aK]
    have gM:n0=(b::l').length*sep.length:=by rw[<-se,Nat.mul_comm];rfl
    let s1:St:=s.u.A (.J [.Ys,.Ca] 209 false)
    have oU:s1.heap.u s.a=some (.J [.Ys,.Ca] 209 false):=by
     show(s.heap.A s.a _).u s.a=_;rw[Ap,if_pos rfl]
    have hlow1:∀c,c<s.a->s1.heap.u c=s.heap.u c:=fun c hc=>by
     show(s.heap.A s.a _).u c=_;rw[Ap,if_neg (by omega)]
    have hnx1:s1.a=s.a+1:=rfl;refine kf U (grow_run hK1 hK2 hK3 (s:=s1) oU (.inl U) (Nat.lt_succ_self _) (by omega) ?_);intro s2 bv2 qA ru jA ux;have vQ:aJ s2 v (a::b::l'):=hv.aI (by have:=qA.a;omega) fun c hc=>by
     have:=hv.own hc;rw[qA.heap c (by omega) (by omega),hlow1 c this]
    obtain⟨p,hp,ZV⟩:=vQ.at (E:=EK K) (i:=0) (by simp) s9 Ia;refine Ld<|Es<|qm U<|Lq (kv (k:=0) U hp) U<|Lo (Bs U U ZV) U ?_;have hov2:CT s.a bv2=false:=by
     cases h:CT s.a bv2 with
     |false=>rfl
     |true=>have:=ux _ h;omega
    refine kf U (Jr hK4 hK2 ru (.inr U) (by have:=qA.a;omega) jA hov2 (by simp only[List.length_nil,List.getElem_cons_zero];omega) ?_);intro s3 bv3 hc3 hg3 xC how3 _ _;have hch3:YS s1 s3 (fun c=>c=s.a\/s1.a<=c):=qA.trans hc3 (fun _ h=> .inl h) (fun c h=>h.elim (fun h=> .inl (.inl h)) fun h=> .inl (.inr (ux c h))) (by show s.a<=s.a+1;omega);have hv3:aJ s3 v (a::b::l'):=hv.aI (by have:=hch3.a;omega) fun c hc=>by
     have:=hv.own hc;rw[hch3.heap c (by omega) (by omega),hlow1 c this]
    obtain⟨v',hsl',hvt',hovt'⟩:=hv3.tail;have hlen':=hvt'.len;refine Ld<|Sq<|Es<|qm U<|Lo (Va U MM Ia U U U hsl') U<|Lq (kn U hlen') U<|Lw U<|Sb<|Ai (fun x:Nat×AV×St=>([(65,.int .i64 (x.1:Nat)),(64,.int .i64 ((b::l').length:Nat)),(63,v'),(8,.Z s.a 0),(1,.J sep)],x.2.2)) (fun x=>(b::l').length-x.1)
     (fun x=>x.1<=(b::l').length/\s3.a<=x.2.2.a/\YS s1 x.2.2 (fun c=>c=s.a\/s1.a<=c)/\x.2.2.heap.u s.a=some (.J [.Z s.a 0,x.2.1] 209 false)/\ig x.2.2 5 x.2.1 (a++((b::l').take x.1).flatMap (sep++·))/\(∀c,CT c x.2.1=true->s1.a<=c))
     (0,bv3,s3) ⟨Qo _,Qj _,hch3,hg3,?_,?_⟩ rfl (Ac (by trivial)) ?_
    .show ig s3 5 bv3 (a++[]);rw[List.append_nil];exact xC
    .intro c hc;rcases how3 c hc with h|h
     .exact ux c h
     .have:=qA.a;show s1.a<=c;omega
    rintro⟨j,bv,st⟩ ⟨hj,wW,hcj,hgj,hbj,howj⟩;dsimp only at hj wW hcj hgj hbj howj|-;have fB:=hcj.a;have hvj:aJ st v' (b::l'):=hvt'.aI wW fun c hc=>by
     have:=hv.own (hovt' c hc);rw[hcj.heap c (by omega) (by omega),hch3.heap c (by omega) (by omega)]
    have hwl:(a++((b::l').take j).flatMap (sep++·)).length=a.length+(aK ((b::l').take j)+j*sep.length):=by
     rw[Qm,FR,List.length_take,Nat.min_eq_left hj]
    have hsj:=EG (l:=b::l') j;have hjm:j*sep.length<=n0:=by rw[gM];exact Nat.mul_le_mul_right _ hj
    have hnj:s.a<st.a:=by omega
    have hovj:CT s.a bv=false:=by
     cases h:CT s.a bv with
     |false=>rfl
     |true=>have:=howj _ h;omega
    generalize hw:a++((b::l').take j).flatMap (sep++·)=w at*;focus
     refine Ew U<|Sq<|Cd U (fun h4=>?_) (fun h4=>?_);refine Sk<|Sq<|Sb<|Es ?_;rotate_left;refine Sx<|Ax U<|Es ?_;rotate_left
    .have C8:j<(b::l').length:=by omega
     obtain⟨p,hp,ZV⟩:=hvj.at (E:=EK K) C8 s9 Ia;have hsj1:=EG (l:=b::l') (j+1);have hsj2:=Oh C8;have hjm1:j*sep.length+sep.length<=n0:=by rw[gM,<-Nat.succ_mul];exact Nat.mul_le_mul_right _ C8
     refine Lq (kv U hp) U<|Lo (Bs U U ZV) U<|Lw U<|Es<|qm U<|kf U (Jr hK4 hK2 hgj (.inr U) hnj hbj hovj (by omega) ?_);intro s4 bv4 hc4 hg4 xG how4 _ _;have hn4:=hc4.a;have how4':∀c,CT c bv4=true->s1.a<=c:=fun c hc=>by
      rcases how4 c hc with h|h
      .exact howj c h
      .omega
     have hov4:CT s.a bv4=false:=by
      cases h:CT s.a bv4 with
      |false=>rfl
      |true=>have:=how4' _ h;omega
     refine Ld<|Sr<|qm U<|kf U (Jr hK4 hK2 hg4 (.inr U) (by omega) xG hov4 (by rw[Qm];omega) ?_);intro s5 bv5 hc5 hg5 hb5 how5 _ _;have hn5:=hc5.a;refine Ld<|Sr<|Lq (ka (b:=1) U (by omega)) U<|Lw U ?_;refine⟨(j+1,bv5,s5),⟨C8,by show s3.a<=s5.a;omega,?_,hg5,?_,?_⟩,by show(b::l').length-(j+1)<_;omega,U,U,Ac (by trivial)⟩
     .have e1:YS s1 s4 (fun c=>c=s.a\/s1.a<=c):=hcj.trans hc4 (fun _ h=>h) (fun c h=>h.elim (fun h=> .inl (.inl h)) fun h=> .inl (.inr (howj c h))) (by show s.a<=s.a+1;omega);exact e1.trans hc5 (fun _ h=>h) (fun c h=>h.elim (fun h=> .inl (.inl h)) fun h=> .inl (.inr (how4' c h))) (by show s.a<=s.a+1;omega)
     .show ig s5 5 bv5 (a++((b::l').take (j+1)).flatMap (sep++·));rw[Mr C8,<-List.append_assoc,<-List.append_assoc,hw];exact hb5
     .intro c hc;show s1.a<=c;rcases how5 c hc with h|h
      .exact how4' c h
      .omega
    .have hje:j=(b::l').length:=by omega
     refine kf U (text_run hK5 hgj hnj hbj (by omega) ?_);intro s6 hc6;refine Lw U<|Se ?_;have hc7:YS s1 s6 (fun c=>c=s.a\/s1.a<=c):=hcj.trans hc6 (fun _ h=>h) (fun c h=> .inl (.inr (howj c h))) (by show s.a<=s.a+1;omega);have CU:s6.c=[]:=by
      cases hl:s6.c with
      |nil=>rfl
      |cons c lg=>
       have:=hc7.d c (by rw[hl];exact Qh ..);rcases this with h|⟨h,h'⟩
       .cases h
       .have h2:c<s.a:=h;omega
     refine⟨.inl U,_,rfl,_,Aa U U,AQ U (fun _ _=>rfl) (fun _=>rfl) (fun _=>?_) fun h=>absurd CU h⟩;show R (.J w) s;rw[<-hw,hje,List.take_length];exact hR
end
theorem WG (l:List Zi) (h:l≠ []): [40]++vW [44,32] l++[41]=mX l:=by
 cases l with
 |nil=>exact absurd rfl h
 |cons a l=>
  show [40]++(a++l.flatMap ([44,32]++·))++[41]=[40]++a++l.flatMap ([44,32]++·)++[41]
  rw[List.append_assoc [40] a]
theorem WI (l:List Zi):(vW [44,32] l).length<=aK l+l.length*2:=by
 cases l with
 |nil=>exact Qo _
 |cons a l=>
  show(a++l.flatMap ([44,32]++·)).length<=_;rw[Qm,FR,Hp];show a.length+(aK l+l.length*2)<=_+(l.length+1)*2;omega
abbrev WiT:= {l:List Zi//l.length<=1000/\aK l<=100000}
def encWi (p:WiT):List AV:=[CY p.1]
theorem with_to (l:List Zi) (h1:l.length<=1000) (h2:aK l<=100000):Cj (EK KP41) 106 [CY l] S0 (.J (mX l)):=by
 refine As U ?_;have hl:=J1 l;have hj:=WI l;have c1:=qR 40;have c2:=qR 41;cases l with
 |nil=>
  refine Es<|Lw U<|Sq<|Ew U<|Tt U<|Ew U<|Se (Er U U)
 |cons a l=>
  refine Ew U<|Sq<|Ew U<|Tf U<|Sk<|Es<|qm U<|kf U (join_run (l:=a::l) U U U U U U (.inr (.inl ⟨true,U⟩)) (by show _+3*_<=_;omega) ?_);iterate 2 refine Lq (Av U Zr U U (by grind)) U ?_
  refine Lw U<|Se (Er U ?_);exact congrArg AV.J (WG (a::l) (fun h=>by cases h))
noncomputable def KP42:=CX KP41 106 encWi (fun p=> .J (mX p.1))
theorem hq_106 {l:List Zi} (h1:l.length<=1000) (h2:aK l<=100000):KP42 106 [CY l]=some (.J (mX l)):=Aj (enc:=encWi) (fun a b h=>by rw[show a=b from Subtype.ext (J2 (List.cons.inj h).1)]) ⟨l,h1,h2⟩
theorem pall42 (h:CM Tryz.prog 8 [] (.bool true)):Co Tryz.prog gn KP42:=Al Aw Ag (pall41 h) (fun p:WiT=>with_to p.1 p.2.1 p.2.2) (fun p=>by
 show(Cm 40 (CY p.1)&&true)=true;rw[BE];rfl) (fun _=>rfl)
end Go.Proofs.YtfhimfcbphepeaaGreatDoor.Ty
open Go Am
namespace Am
theorem D4 {E:a_} {KP:AV->Sl->St->Prop} {all rest:List Oper} {fr:Fr} {l:Sl} {st:St} {K:Sl->St->Prop} (h:∀s',s'=st->CC E KP all rest fr l s' K):CC E KP all rest fr l st K:=h st rfl
end Am
namespace Go.Proofs.YtfhimfcbphepeaaGreatDoor.Ty
theorem LD (cs:List AV) (n k m j:Nat):Cw m (j+1) (jK cs n k)=true:=by
 rcases EM cs n k with h|h<;>rw[h]<;>rfl
abbrev fnV:AV:= .G' (.func 122) [] []
theorem name1_to (x:Ci) (s:St):Cj (EK KP42) 122 [.agg (Cq x)] s (.J x.1):=by
 refine Cj.flat (fn:=Tryz.f122) U U U U U U (fun _ _=>rfl) (fun _=>rfl) ?_;have g2:(s.u.A (.J (Cq x) 137 false)).heap.u s.a=some (.J (Cq x) 137 false):=A1;unfold Cq at g2|-;refine Es<|Lo (ZU.box U U U) U<|Lw U<|Es<|Lv 1 U<|Lo (kl U g2 U) U<|Lw U ?_;exact Se ⟨.inl U,U,U,_,Aa U U,U⟩
theorem each_to (ds:List Ci) (hd:ds.length<=1000):Cj (EK KP42) 121 [Cp Cq 2 ds,fnV] S0 (CY (ds.map Prod.fst)):=by
 refine As U ?_;iterate 2 refine Ew U ?_
 refine Sq<|Ew U<|Sb<|Ai (fun x:Nat×AV×St=>([(10,.int .i64 (x.1:Nat)),(9,.int .i64 (ds.length:Nat)),(8,Cp Cq 2 ds),(5,x.2.1),(1,fnV)],x.2.2)) (fun x=>ds.length-x.1)
  (fun x=>x.1<=ds.length/\x.2.2.b=0/\x.2.2.c=[]/\c_ x.2.2 9 1 x.2.1 (((ds.take x.1).map Prod.fst).map .J) x.1) (0,.Ca,_) ⟨Qo _,rfl,rfl,c_.nil _ _ _⟩ rfl (Ac (by trivial)) ?_
 rintro⟨i,v,st⟩ ⟨hi,aO,Z9,dy⟩;dsimp only at hi aO Z9 dy|-;by_cases h:i<ds.length
 .have YK:=A6 A0 h;obtain⟨sA,ix⟩:∃x,x=(st.A (.J [.J [],.int .i64 0] 137 false)).B st.a (some (.J (Cq ds[i]) 137 false)):=⟨_,rfl⟩
  have tA:sA.heap.u st.a=some (.J (Cq ds[i]) 137 false):=by rw[ix];exact AF.trans (if_pos rfl)
  have nA:sA.a=st.a+1:=by rw[ix];rfl
  have bA:sA.b=0:=by rw[ix];exact aO
  have lA:sA.c=[]:=by rw[ix];exact(Bu (s:=st.A _) aO).trans Z9
  have oA:∀c,c<st.a->sA.heap.u c=st.heap.u c:=fun c hc=>by rw[ix];exact(AF.trans (if_neg (by omega))).trans (Au hc)
  have gA:c_ sA 9 1 v (((ds.take i).map Prod.fst).map .J) i:=dy.aI (by omega) fun c hc=>oA c (dy.own hc);have hc:=name1_to ds[i];unfold Cq at YK ix tA hc;obtain⟨a1,a2,a3,a4,a5,a6,a7⟩:=FY (st:=st) (z:=[.J [],.int .i64 0]) (cs:=[.J ds[i].1,.int .i64 ds[i].2]) (T:=137);focus
   refine Ew U<|Sq<|Cd U (fun h1=>?_) (fun h1=>?_);refine Sk<|Sq<|Sb<|Es<|Lq (kv U YK) U<|Lv 1 U<|Lo (kz U) U<|Ln (kw U a1 U) U<|Ld<|Sr<|Lv 2 U<|Lo (kL U a2 U) U ?_;rotate_left;omega
  refine D4 fun sX bm=>?_;obtain rfl:sX=sA:=bm.trans ix.symm;clear bm ix a1 a2 a3 a4 a5 a6 a7;refine Lo (F8 U U U U U (hc sX)) U<|Lo (Bv U MM Ia tn U U U) U<|DT gA U (by decide) (AP (by omega) (by decide)) (AP (by omega) (by decide)) U U U U MM Ia sH tn U U U U U U U fun v6 s6 f6 o6 c6 l6=>?_;refine Lw U<|Sr<|Lq (ka (b:=1) U (by omega)) U<|Lw U ?_;refine⟨(i+1,v6,s6),⟨h,c6.b.trans bA,List.eq_nil_iff_forall_not_mem.2 fun c hc=>?_,?_⟩,by show ds.length-(i+1)<ds.length-i;omega,rfl,rfl,Ac (by trivial)⟩
  .rcases c6.d c hc with h1|h1
   .rw[lA]at h1;cases h1
   .omega
  .rw[List.take_succ_eq_append_getElem h,List.map_append,List.map_append];exact f6
 .obtain rfl:i=ds.length:=by omega
  rw[List.take_length]at dy;focus
   refine Ew U<|Sq<|Cd U (fun h1=>?_) (fun h1=>?_);omega;refine Sx<|Ax U<|Ew U ?_;rotate_left
  have hp:((ds.map Prod.fst).map AV.J).all jJ=true:=by rw[List.all_map,List.all_map];exact List.all_eq_true.2 fun _ _=>rfl
  obtain⟨ks,hf⟩:=dy.ma hp (by rw[List.all_map,List.all_map];exact List.all_eq_true.2 fun _ _=>rfl) 38;refine Se ⟨.inl U,U,Z9,aO,_,_,ks,Aa U U,hf,?_,?_⟩
  .rcases EM ((ds.map Prod.fst).map AV.J) ds.length 1 with e|e<;>rw[e]<;>rfl
  .unfold CY;rw[Qn]
def encEa (p:DnT):List AV:=[Cp Cq 2 p.1,fnV]
noncomputable def KP43:=CX KP42 121 encEa (fun p=>CY (p.1.map Prod.fst))
theorem hq_121 {ds:List Ci} (h:ds.length<=1000):KP43 121 [Cp Cq 2 ds,fnV]=some (CY (ds.map Prod.fst)):=Aj (enc:=encEa) (fun a b h=>by rw[show a=b from Subtype.ext (B8 BP A0 (List.cons.inj h).1)]) ⟨ds,h⟩
theorem VX (cs ds:List Ci) (hd:ds.length<=1000):Cj (EK KP43) 58 [CH cs ds] S0 (CY (ds.map Prod.fst)):=by
 have hit_121:KP43 121 [Cp Cq 2 ds,fnV]=some (CY (ds.map Prod.fst)):=hq_121 hd;generalize ds.map Prod.fst=w at*;refine As U<|Eh U<|Es<|Ls 2 U<|Lo (kc U (hit_121)) U<|Lw U ?_;exact Se ⟨.inl U,U,U,U,_,_,[],Aa U U,frz_outA,LD _ _ _ _ _,U⟩
abbrev PqT:= {p:List Ci×List Ci//p.2.length<=1000}
def wy (p:PqT):List AV:=[CH p.1.1 p.1.2]
theorem X6 (a b:PqT) (h:wy a=wy b):a=b:=by
 obtain⟨⟨a1,a2⟩,_⟩:=a;obtain⟨⟨b1,b2⟩,_⟩:=b;obtain⟨rfl,rfl⟩:=Dr (List.cons.inj h).1;rfl
noncomputable def LF:=CX KP43 58 wy (fun p=>CY (p.1.2.map Prod.fst))
theorem hq_58 {cs ds:List Ci} (h:ds.length<=1000):LF 58 [CH cs ds]=some (CY (ds.map Prod.fst)):=Aj (enc:=wy) (fun a b h=>by rw[X6 a b h]) ⟨(cs,ds),h⟩
theorem pallF (h:CM Tryz.prog 8 [] (.bool true)):Co Tryz.prog gn LF:=by
 have a1:Co Tryz.prog gn KP43:=Al Aw Ag (pall42 h) (fun p:DnT=>each_to p.1 p.2) (fun _=>rfl) (fun p=>BE _);exact Al Aw Ag a1 (fun p:PqT=>VX p.1.1 p.1.2 p.2) (fun _=>rfl) (fun p=>BE _)
end Go.Proofs.YtfhimfcbphepeaaGreatDoor.Ty
open Go Am
namespace Am
theorem U1 {E:a_} {f:FuncId} {v w:AV} {s st:St} {ks:List Nat} {R:AV->St->Prop} (hf:E.e f=2) (hz:CW st 0 40 v []=some (w,ks)) (hk:∀b∈ks,st.b<=b) (hu:Cw s.a 40 w=true) (h1:st.c=[]->R w s) (h2:st.c≠ []->R w (s.M (r1 st ks))):
 ∃cr,k_ E f s v st=some cr/\match cr with
  | .same v=>R v s
  | .J v s'=>R v s'
  | .O _ _=>False:=by
 by_cases hl:st.c=[]
 .refine⟨.same w,?_,h1 hl⟩;unfold k_ frozen;rw[hf];simp only;show((YE 0 v st).bind _)=_;unfold YE;rw[hz];simp only[Qe];rw[Jc hk,hl];show some (bif Cw s.a 40 w then _ else _)=_;rw[hu];rfl
 .exact⟨_,WC hf hl hz hk,h2 hl⟩
noncomputable def uo (s:St) (b:Nat) (o:Option Cv):St:= {s with c:=bif Nat.blt b s.b then b::s.c else s.c,heap:=s.heap.A b o}
theorem qx {s:St} {b c:Nat} {o:Option Cv}:(uo s b o).heap.u c=if c=b then o else s.heap.u c:=Ap ..
theorem qy {s:St} {b c:Nat} {o:Option Cv}:c∈(uo s b o).c↔(c=b/\c<s.b)\/c∈s.c:=by
 show c∈(bif Nat.blt b s.b then b::s.c else s.c)↔_;cases h:Nat.blt b s.b with
 |true=>
  have h:b<s.b:=Qc h;rw[cond_true,Qk];exact or_congr ⟨fun e=>⟨e,by omega⟩,fun e=>e.1⟩ Iff.rfl
 |false=>
  rw[cond_false];refine⟨.inr,fun h2=>h2.elim (fun⟨e,h3⟩=>?_) id⟩;have:=Qd (show c+1<=s.b from h3);rw[e]at this;rw[show Nat.blt b s.b=Nat.ble (b+1) s.b from rfl,this]at h;cases h
theorem chg_putB {s:St} {b:Nat} {o:Option Cv}:YS s (uo s b o) (fun c=>c=b):=⟨Qj _,rfl,fun c hc=>by
 rcases qy.1 hc with h|h
 .exact .inr ⟨h.2,h.1⟩
 .exact .inl h,fun c _ h=>qx.trans (if_neg h)⟩
theorem lg_putB {s:St} {b:Nat} {o:Option Cv}:Cu s (uo s b o):=⟨rfl,fun c hc=>qy.2 (.inr hc),fun c hc hn=>qx.trans (if_neg fun e=>hn (qy.2 (.inl ⟨e,hc⟩)))⟩
section
variable {E : a_} {fr : Fr} {l : Sl} {st : St} {o : Oper} {all rest : List Oper} {i : Nat} {js : List Nat} {nl : YI} {K : Sl -> St -> Prop} {od : Option Nat}
theorem D3 {KN:PN} {t:TypeId} {a:Operand} {v:AV} {b off:Nat} (ho:o.op= .load t a) (ha:Cg a (Yn (b_ o.op.operands.toList) l)=some (.Z b off)) (hv:Zd E t st (.Z b off)=some v)
 (hc:Zp (Yt all i) b nl=true) (hg:Yv all l o) (hd:o.dst=od) (C8:YW fr.nt od=true)
 (h:CF E (KN.u (i,b,fun _ _=>False)) all rest (i+1) fr (ZC od v l) st (i::js) nl K):CF E KN all (o::rest) i fr l st js nl K:=by
 intro T0 T news looked hT fX nV nO;let dd:ph:=cY E all i o
 let q:fK:=⟨T,st,news,looked⟩
 let TP:=aw T (b_ o.op.operands.toList) .J
 let H:=Tr.A .J b (st.heap.u b)
 let re:=mD dd q (.block b,v,st.J H)
 have gE:dd.so= .Z (Ch E a) fun T s=>(Ch E a T).bind (Zd E t s):=by
  show ZW E o.type o.op=_;rw[ho];rfl
 have hTP:k8 (Yn (b_ o.op.operands.toList) l) TP:=hT.Yn _;obtain⟨M,ex,l',T',s',hk,hr⟩:=h T0 (mQ od v T) news ((i,.block b,re)::looked) (hT.ZC od v) fX (fun p hp=>by
  rcases Qk.1 hp with rfl|hp
  .exact .inl (Qh ..)
  .exact(nV p hp).imp (Qg _) id) ⟨fun e he=>by
   rcases Qk.1 he with rfl|he
   .exact Nat.lt_succ_self _
   .exact Nat.lt_succ_of_lt (nO.1 e he),(nO.cons (j8:= .block b) (re:=re)).2.1,fun p hp e he x=>by
   rcases Qk.1 he with rfl|he
   .rcases Qk.1 hp with rfl|hp
    .exact⟨rfl,fun _ _ h=>h.elim⟩
    .have:=nO.2.1 p hp;have x:p.1=i:=x;omega
   .exact(nO.cons (j8:= .block b) (re:=re)).2.2 p hp e he x⟩
 refine⟨M,ex,l',T',s',hk,fun n hn=>?_⟩;have kB:bj E (ev E n) fr dd q TP=some (.block b,v,st.J H):=by
  unfold bj;rw[gE];show eg (lG (dk (Ch E a TP))) _=_;have ht:lG (dk (Ch E a TP))= .block b:=by rw[Ae hTP ha];rfl
  rw[ht];show eg (.block b) (ZR (fun v=>K0.run (ev E n) fr TP v (st.J (YL dd.a news st.heap (ZH (.Z (Ch E a) fun T s=>(Ch E a T).bind (Zd E t s)) TP)))) ((Ch E a TP).bind (Zd E t (st.J (YL dd.a news st.heap (ZH (.Z (Ch E a) fun T s=>(Ch E a T).bind (Zd E t s)) TP))))))=_;have ht2:ZH (.Z (Ch E a) fun T s=>(Ch E a T).bind (Zd E t s)) TP= .block b:=ht;have hs:YL dd.a news st.heap (.block b)=H:=by
   show(bif bN (Yt all i) b news then _ else _)=_;rw[Do hc fX];rfl
  rw[ht2,hs,Ae hTP ha];have:Zd E t (st.J H) (.Z b off)=some v:=(Ke (by show(Tr.A .J b (st.heap.u b)).u b=_;rw[Ap,if_pos rfl])).trans hv;simp only[Qe,this,ZR];rfl
 exact EJ (runN hT hg kB) (Ij (nt:=fr.nt) (d:=dd) (q:=q) (j8:= .block b) (v:=v) (H:=H) (od:=od) hd C8) (hr n (by omega))
theorem UR {KN:PN} {t k e:TypeId} {kd:Kd} {x y:Operand} {ok:Bool} {z a v:AV} {b:Nat} (ho:o.op= .lookup t x y ok) (hu:CS E t=some (.map k e)) (hz:i_ E e=some z) (hk:eC E k=some kd) (hx:Cg x (Yn (b_ o.op.operands.toList) l)=some (.H_ b)) (hy:Cg y (Yn (b_ o.op.operands.toList) l)=some a)
 (hv:cF kd st ok z (.H_ b) a=some v) (hc:Zp (Yt all i) b nl=true) (hg:Yv all l o) (hd:o.dst=od) (C8:YW fr.nt od=true)
 (h:CF E KN all rest (i+1) fr (ZC od v l) st (i::js) nl K):CF E KN all (o::rest) i fr l st js nl K:=
 NP (p:= .H_ b) (b:=b) (x:=Ch E x) (f:=fun T s=>(Ch E x T).bind fun a=>(Ch E y T).bind fun c=>cF kd s ok z a c) (by
  rw[ho];show iC E t x y ok=_;unfold iC;rw[hu];simp only[hz,hk]) (fun T hT=>Ae hT hx) rfl (fun T hT=>by
  simp only[Ae hT hx,Ae hT hy,Qe];have e:(st.J (Tr.A .J b (st.heap.u b))).heap.u b=st.heap.u b:=by show(Tr.A .J b (st.heap.u b)).u b=_;rw[Ap,if_pos rfl]
  have e2:cF kd (st.J (Tr.A .J b (st.heap.u b))) ok z (.H_ b) a=cF kd st ok z (.H_ b) a:=by
   show(bif iz kd a then(jy _).bind _ else none)=(bif iz kd a then(jy _).bind _ else none)
   rw[e]
  rw[e2];exact hv) hc hg hd C8 h
end
theorem IW {js:List Nat} {a:Nat} {KN:PN} (h:(js.all fun j=>Nat.testBit a j||KN.a.any fun e=>Nat.beq e.1 j)=true):∀j∈js,Nat.testBit a j=true\/∃e∈KN.a,e.1=j:=fun j hj=>by
 have:=List.all_eq_true.1 h j hj;rw[Bool.or_eq_true]at this;refine this.imp id fun h=>?_;obtain⟨e,he,h2⟩:=List.any_eq_true.1 h;exact⟨e,he,Qb h2⟩
end Am
namespace Go.Proofs.YtfhimfcbphepeaaGreatDoor.Ty
structure Y7 (s s':St) (p:Nat):Prop where
 a:YS s s' (fun c=>c=p)
 b:Cu s s'
theorem Y7.trans {s s1 s2:St} {p:Nat} (h:Y7 s s1 p) (g:Y7 s1 s2 p) (hb:s.b<=s.a):Y7 s s2 p:=⟨h.a.trans g.a (fun _ h=>h) (fun _ h=> .inl h) hb,h.b.trans g.b⟩
theorem Y7.u {s st:St} {p:Nat} (h:Y7 s.u st p) (hb:s.b<=s.a):Y7 s (s.M st) p:=⟨YS.A h.a,Cu.G h.b hb⟩
theorem Y7.I {s s':St} {p:Nat} (h:Y7 s s' p) (hb:s.b<=s.a):s'.b<=s'.a:=by
 have:=h.a.a;rw[h.a.b];omega
theorem Y7.A {s:St} {p:Nat}:Y7 s s p:=⟨YS.I,Cu.B⟩
theorem Y7.B {s:St} {p:Nat} {o:Cv} (hb:s.b<=s.a):Y7 s (s.A o) p:=⟨YS.u,Cu.u hb⟩
theorem Y7.J {s:St} {p:Nat} {o:Option Cv}:Y7 s (s.B p o) p:=⟨YS.B,Cu.A⟩
theorem Y7.own {s:St} {p b:Nat} {o:Option Cv} {oa:Cv} (hb:s.b<=s.a) (iO:b=s.a):Y7 s ((s.A oa).B b o) p:=by
 subst iO;exact⟨YS.u.trans (own:=fun c=>c=p) (o1:=fun c=>c=p) (YS.B (s:=s.A oa) (b:=s.a) (o:=o)) (fun _ h=>h) (fun c h=> .inr (by rw[h];exact Qj _)) hb,(Cu.u hb).trans Cu.A⟩
theorem Y7.M {s st:St} {p b:Nat} {o:Option Cv} (g:Y7 s st p) (h:s.a<=b) (hb:s.b<=s.a):Y7 s (st.B b o) p:=⟨g.a.trans YS.B (fun _ h=>h) (fun c hc=> .inr (by rw[hc];exact h)) hb,g.b.trans Cu.A⟩
theorem Y7.G {s s1 s2:St} {p q:Nat} (g:Y7 s.u s1 p) (h:Y7 s1 s2 q) (hq:s.a<=q):Y7 s.u s2 p:=⟨g.a.trans h.a (fun _ h=>h) (fun c hc=> .inr (by rw[hc];exact hq)) (Qj _),g.b.trans h.b⟩
theorem Xb {s:St} {e:TypeId} {sz n m:Nat} {v:AV} {cs:List AV} (h:c_ s e sz v cs n) (hz:∀ks,CW.many (CW s 0 m) cs ks=some (cs,ks)) (hc:cs.all (Cm 40)=true) (ks:List Nat):∃k2,CW s 0 (m+1) v ks=some (jK cs n sz,k2++ks)/\∀b∈k2,CT b v=true:=by
 rcases h with⟨rfl,rfl,rfl⟩|⟨b,rfl,hb,hg,hl,h0⟩
 .exact⟨[],rfl,fun b hb=>by cases hb⟩
 .refine⟨[b],?_,fun c hc=>by rw[Qp.1 hc];exact Nat.beq_refl b⟩;rw[Xi (Qo _) hg hl (hz ks),hc,We h0];rfl
theorem Sh {s:St} {m n:Nat}:∀(l:List Zi) (ks:List Nat),CW.many (CW s m (n+1)) (l.map .J) ks=some (l.map .J,ks)
 | [],_=>rfl
 |w::l,ks=>by
  show((CW.many (CW s m (n+1)) (l.map .J) ks).bind _)=_;rw[Sh l];rfl
abbrev oN (e:Int):AV:= .H' 151 (.agg [.int .i64 e])
theorem VK {s:St} {e:Int}:Cj (EK LF) 31 [.bool false,.int .i64 e] s (.O []):=by
 refine Cj.flat (fn:=Tryz.f31) U U U U U U (fun _ _=>rfl) (fun _=>rfl)<|Ew U<|Tf U<|Sk ?_;exact⟨.inr U,U,U,_,U,U⟩
theorem S5 {s:St} {e:Int} {R RP:AV->St->Prop} (h:RP (oN e) s):YG (EK LF) 31 [.bool true,.int .i64 e] s R RP:=by
 refine YG.unit (fn:=Tryz.f31) U U U U U U<|Ew U<|Tt U<|Sr<|Lv 3 U<|CC.raise U U U ?_;exact⟨U,h⟩
theorem M4 {s:St} {b:Bool} (nk:s.b<=s.a) {R RP:AV->St->Prop} (hR:b=false->R (.O []) s) (hP:b=true->RP (oN 7) s):YG (EK LF) 91 [.bool b] s R RP:=by
 refine YG.unit (fn:=Tryz.f91) U U U U U U ?_;focus
  refine Sr<|qm U<|F4 (k:=2) U (fun g1=>?_) (fun g1=>?_);refine Bk U U U U U U U (S5 ?_);rotate_left;refine Lo (Dq U U U U (VK)) U<|Ld ?_;rotate_left
 .exact⟨U,hP g1⟩
 .exact⟨.inr U,rfl,fun _=>hR g1,hR g1⟩
theorem RE {g:FuncId} {caps:List AV} {s:St} {p:Nat} {Q:Option Int->Option Cv->Prop} {R RP:AV->St->Prop} (hb:CI (EK LF) g=true) (tF:s.b<=s.a) (hp:p<s.a)
 (h:YG (EK LF) g caps (s.u.A (.J [.int .i64 0] 31 false)) (fun v st=>v= .O []/\Y7 (s.u.A (.J [.int .i64 0] 31 false)) st p/\Q none (st.heap.u p)) fun v st=>∃e,v=oN e/\Y7 (s.u.A (.J [.int .i64 0] 31 false)) st p/\Q (some e) (st.heap.u p))
 (hR:∀o s',Y7 s s' p->Q o (s'.heap.u p)->R (.int .i64 (o.getD 0)) s'):YG (EK LF) 29 [.G' (.func g) [] caps] s R RP:=by
 have hE:s.u.b<=s.u.a:=Qj _;refine YG.putOff (fn:=Tryz.f29) U U U U U U<|Es<|Lo (kz U) U<|Ld<|L7 U (kq U) U U U U U U U U U U ?_;obtain⟨sA,hA⟩:∃x,x=s.u.A (.J [.int .i64 0] 31 false):=⟨_,rfl⟩
 rw[<-hA]at h;have gA:Y7 s.u sA p:=by rw[hA];exact Y7.B hE
 have nA:sA.a=s.a+1:=by rw[hA];rfl
 have eA:sA.heap.u s.a=some (.J [.int .i64 0] 31 false):=by rw[hA];exact A1
 have fin:∀(st:St) (o:Option Int),Y7 s.u st p->Q o (st.heap.u p)->st.heap.u s.a=some (.J [.int .i64 (o.getD 0)] 31 false)->∃cr,k_ (EK LF) 29 s (.int .i64 (o.getD 0)) st=some cr/\match cr with
  | .same v=>R v s
  | .J v s'=>R v s'
  | .O _ _=>False:=fun st o g q _=>AQ rfl (fun _ _=>rfl) (fun _=>rfl) (fun hl=>hR o s Y7.A (by
   rw[<-show st.heap.u p=s.heap.u p from g.b.same p hp (by rw[hl];exact List.not_mem_nil)];exact q)) (fun _=>hR o _ (g.u tF) q)
 refine Es<|qm U ?_;show CC _ _ _ _ _ _ (s.u.A (.J [.int .i64 0] 31 false)) _;rw[<-hA];clear hA;refine F6 hb U U U U U U U U (h.mono (fun v st ⟨hv,g,q⟩=>?_) fun v st ⟨e,hv,g,q⟩=>?_)
 .subst hv;have eS:st.heap.u s.a=some (.J [.int .i64 0] 31 false):=(g.a.heap _ (by omega) (by omega)).trans eA;have gS:=gA.trans g hE;refine Ld<|Es<|Ln (kw U eS U) U<|Ld ?_;have eP:(st.B s.a (some (.J [.int .i64 0] 31 false))).heap.u s.a=some (.J [.int .i64 0] 31 false):=AF.trans (if_pos rfl);have qP:Q none ((st.B s.a (some (.J [.int .i64 0] 31 false))).heap.u p):=by rw[AF,if_neg (by omega)];exact q
  have gP:=gS.M (b:=s.a) (o:=some (.J [.int .i64 0] 31 false)) (Qj _) hE;show CA _ _ _ _ (st.B s.a (some (.J [.int .i64 0] 31 false))) _;generalize st.B s.a (some (.J [.int .i64 0] 31 false))=sD at*;refine Se ⟨none,77,_,_,Tryz.f77,_,U,U,by kernel_rfl,U,U,?_⟩;refine Gj U U U U U U U U<|Sb<|Es<|Lq (TE (neg:=false) U if_20 U U U) U<|Ld<|Tt U<|Sr<|Lw U ?_;exact⟨.inl U,U,[.int .i64 0],DO U wa Vx eP U U,fin _ none gP qP eP⟩
 .subst hv;have eS:st.heap.u s.a=some (.J [.int .i64 0] 31 false):=(g.a.heap _ (by omega) (by omega)).trans eA;have gS:=gA.trans g hE;refine⟨some (oN e),77,_,_,Tryz.f77,_,U,U,by kernel_rfl,U,U,?_⟩;refine Gj U U U U U U U U ?_;obtain⟨a1,a2,a3,a4,a5,a6,a7⟩:=FY (st:=st) (z:=[.int .i64 0]) (cs:=[.int .i64 e]) (T:=151);have Zc:=g.a.a;have gB:=gS.trans (Y7.own (p:=p) (oa:= .J [.int .i64 0] 151 false) (o:=some (.J [.int .i64 e] 151 false)) (gS.I hE) rfl) hE;have eB:=(a4 s.a (by omega)).trans eS;have qB:Q (some e) (((st.A (.J [.int .i64 0] 151 false)).B st.a (some (.J [.int .i64 e] 151 false))).heap.u p):=by rw[a4 p (by omega)];exact q
  refine Sb<|Es<|Lq (TE (neg:=false) U if_20 U U U) U<|Ld<|Tf U<|Ew U<|Tt U<|Es<|Lo (kz U) U<|Ln (kw U a1 U) U<|Ld<|Sr<|Lv 1 U<|Lo (kl U a2 U) U<|Ln (kw U eB U) U<|Ld ?_;exact⟨.inl U,U,[.int .i64 e],DO U wa Vx (AF.trans (if_pos U)) U U,fin (((st.A (.J [.int .i64 0] 151 false)).B st.a (some (.J [.int .i64 e] 151 false))).B s.a (some (.J [.int .i64 e] 31 false))) (some e) (gB.M (Qj _) hE) (by rw[AF,if_neg (by omega)];exact qB) (AF.trans (if_pos U))⟩
end Go.Proofs.YtfhimfcbphepeaaGreatDoor.Ty
open Go Am
namespace Am
theorem TQ {s:St} {b:Nat} {v x:AV} {e:TypeId} {part:Bool} (hg:s.heap.u b=some (.J [x] e part)) (hv:v= .Ca\/∃b o n k c,v= .slice b o n k c):gm 1 s v (.Z b 0)=some (s.B b (some (.J [v] e part))):=by
 rcases hv with rfl|⟨_,_,_,_,_,rfl⟩<;>exact DU hg rfl rfl rfl
theorem c_.sl {s:St} {e:TypeId} {k n:Nat} {v:AV} {cs:List AV} (h:c_ s e k v cs n):v= .Ca\/∃b o n k c,v= .slice b o n k c:=by
 rcases h with⟨rfl,_⟩|⟨b,rfl,_⟩
 .exact .inl U
 .exact .inr ⟨_,_,_,_,_,U⟩
end Am
namespace Go.Proofs.YtfhimfcbphepeaaGreatDoor.Ty
def qS (tk:List Zi) (x:Nat):List Zi:=((List.range x).filter (dQ tk)).map j'
theorem Ti (tk:List Zi) (x:Nat):qS tk (x+1)=if dQ tk x=true then qS tk x++[j' x]else qS tk x:=by
 unfold qS;rw[List.range_succ,List.filter_append];by_cases h:dQ tk x=true
 .rw[if_pos h];simp[h]
 .rw[if_neg h];simp[h]
theorem frL_held (tk:List Zi) (x:Nat):(qS tk x).length+held tk x=x:=by
 induction x with
 |zero=>rfl
 |succ x ih=>
  rw[Ti,Pt];by_cases h:dQ tk x=true
  .rw[if_pos h,if_pos h,Qm];show(qS tk x).length+1+_=_;omega
  .rw[if_neg h,if_neg h];omega
theorem QP (tk:List Zi):∀(f a n:Nat),n<((List.range' a f).filter (dQ tk)).length->((List.range' a f).filter (dQ tk))[n]?=some (uh tk f a n)
 |0,_,_,h=>absurd h (Nat.not_lt_zero _)
 |f+1,a,n,h=>by
  rw[List.range'_succ,List.filter_cons]at h|-;rw[uh];by_cases hf:dQ tk a=true
  .rw[if_pos hf]at h|-;rw[if_pos hf];cases n with
   |zero=>rfl
   |succ m=>
    rw[if_neg (Nat.succ_ne_zero m),List.getElem?_cons_succ];exact QP tk f (a+1) m (Nat.lt_of_succ_lt_succ h)
  .rw[if_neg hf]at h|-;rw[if_neg hf];exact QP tk f (a+1) n h
theorem frL_at {tk:List Zi} {x n:Nat} (hx:x<=100) (hn:n<(qS tk x).length):(qS tk x)[n]?=some (jq tk n):=by
 unfold qS at hn|-;rw[Qn]at hn;have e:List.range 100=List.range x++List.range' x (100-x):=by
  rw[List.range_eq_range',List.range_eq_range',show 100=x+(100-x) by omega,<-List.range'_append_1,Nat.zero_add];rw[show x+(100-x)-x=100-x by omega]
 have h:=QP tk 100 0 n (by rw[<-List.range_eq_range',e,List.filter_append,Qm];omega);rw[<-List.range_eq_range',e,List.filter_append,List.getElem?_append_left hn]at h;rw[List.getElem?_map,h];rfl
theorem idxO_mem {w:Zi} {l:List Zi}:(ir w l).isNone= !decide (w∈l):=by
 by_cases h:w∈l
 .rw[decide_eq_true h];cases hi:ir w l with
  |none=>
   exfalso;have:∀ {l:List Zi},w∈l->ir w l≠none:=by
    intro l;induction l with
    |nil=>intro h;cases h
    |cons a l ih=>
     intro h hn;unfold ir at hn;by_cases e:a=w
     .rw[if_pos e]at hn;cases hn
     .rw[if_neg e]at hn;rcases Qk.1 h with e2|h
      .exact e e2.symm
      .cases hh:ir w l with
       |none=>exact ih h hh
       |some k=>rw[hh]at hn;cases hn
   exact this h hi
  |some k=>rfl
 .rw[decide_eq_false h,Ko fun j hj e=>h (by rw[<-e];exact Ql hj)];rfl
theorem free_eq {tk:List Zi} {k:Nat} (h:k<100):dQ tk k= !decide (j' k∈tk):=by
 unfold dQ;rw[Ey h,Bool.true_and,idxO_mem]
theorem TT {k:Nat} (h:k<100):u_ (j' k)=false:=by
 have:((List.range 100).all fun k=> !u_ (j' k))=true:=by kernel_rfl
 have:=List.all_eq_true.1 this k (List.mem_range.2 h);simpa using this
structure NM (tk:List Zi) (s:St) (bb bn bx k:Nat) (v:AV):Prop where
 nm:s.heap.u bn=some (.J [v] 67 false)
 gr:c_ s 9 1 v ((qS tk k).map .J) (qS tk k).length
 nx:s.heap.u bx=some (.J [.int .i64 (k:Nat)] 3 false)
 bt:s.heap.u bb=some (.J [CY tk] 67 false)
 o2:bb<bn
 o3:bn<bx
 o4:bx<s.a
 own:∀c,CT c v=true->bx<c
 le:k<=100
structure Ng (s s':St) (bn bx:Nat) (v v':AV):Prop where
 eQ:YS s s' (fun c=>c=bn\/c=bx\/CT c v=true)
 own:∀c,CT c v'=true->CT c v=true\/s.a<=c
 pB:Cu s s'
theorem Ng.refl {s:St} {bn bx:Nat} {v:AV}:Ng s s bn bx v v:=⟨YS.I,fun _ h=> .inl h,Cu.B⟩
theorem Ng.trans {s s1 s2:St} {bn bx:Nat} {v v1 v2:AV} (g:Ng s s1 bn bx v v1) (h:Ng s1 s2 bn bx v1 v2) (hb:s.b<=s.a):Ng s s2 bn bx v v2:=
 ⟨g.eQ.trans h.eQ (fun _ h=>h) (fun c hc=>by
  rcases hc with h1|h1|h1
  .exact .inl (.inl h1)
  .exact .inl (.inr (.inl h1))
  .exact(g.own c h1).imp (fun h=> .inr (.inr h)) id) hb,fun c hc=>(by
  rcases h.own c hc with h1|h1
  .exact g.own c h1
  .exact .inr (Nat.le_trans g.eQ.a h1)),g.pB.trans h.pB⟩
theorem Ng.back {s st:St} {bn bx:Nat} {v v':AV} (g:Ng s.u st bn bx v v') (hb:s.b<=s.a):Ng s (s.M st) bn bx v v':=⟨YS.A g.eQ,g.own,Cu.G g.pB hb⟩
theorem Ng.of {s s1:St} {bn bx:Nat} {v:AV} (c:YS s s1 (fun _=>False)) (l:Cu s s1):Ng s s1 bn bx v v:=⟨⟨c.a,c.b,fun b hb=>(c.d b hb).imp id fun h=>h.2.elim,fun b hb _=>c.heap b hb id⟩,fun _ h=> .inl h,l⟩
theorem Ng.qz {s s1:St} {bn bx:Nat} {v v1:AV} (g:Ng s s1 bn bx v v1) (hb:s.b<=s.a):s1.b<=s1.a:=by rw[g.eQ.b];exact Nat.le_trans hb g.eQ.a
theorem NM.aI {tk:List Zi} {s s':St} {bb bn bx k:Nat} {v:AV} (h:NM tk s bb bn bx k v) (c:YS s s' (fun _=>False)):NM tk s' bb bn bx k v:=by
 have:=h.o2;have:=h.o3;have:=h.o4;have hn:=c.a;exact⟨(c.heap bn (by omega) id).trans h.nm,h.gr.aI hn fun d hd=>c.heap d (h.gr.own hd) id,(c.heap bx (by omega) id).trans h.nx,(c.heap bb (by omega) id).trans h.bt,h.o2,h.o3,by omega,h.own,h.le⟩
theorem NM.same {tk:List Zi} {s s':St} {bb bn bx k:Nat} {v:AV} (h:NM tk s bb bn bx k v) (hh:s'.heap=s.heap) (hn:s'.a=s.a):NM tk s' bb bn bx k v:=by
 exact⟨by rw[hh];exact h.nm,h.gr.aI (Nat.le_of_eq hn.symm) (fun c _=>by rw[hh]),by rw[hh];exact h.nx,by rw[hh];exact h.bt,h.o2,h.o3,by rw[hn];exact h.o4,h.own,h.le⟩
theorem nm_at {tk:List Zi} {s:St} {bb bn bx k:Nat} {v:AV} (h:NM tk s bb bn bx k v) {n:Nat} (hn:n<(qS tk k).length):∃b,v= .slice b 0 (qS tk k).length 1 none/\s.heap.u b=some (.J ((qS tk k).map .J) 9 true)/\((qS tk k).map AV.J)[n]?=some (.J (jq tk n)):=by
 obtain⟨b,rfl,hb,hg,hl,h0⟩:=h.gr.resolve_left fun h=>by omega
 refine⟨b,U,hg,?_⟩;rw[List.getElem?_map,frL_at h.le hn];rfl
set_option maxRecDepth 4000 in
theorem Mb {tk:List Zi} (htk:tk.length<=30) {s:St} {bb bn bx k n:Nat} {v:AV} (h:NM tk s bb bn bx k v) (hb:s.b<=s.a) (hn:n<20) {R RP:AV->St->Prop} (hR:∀k' v' s',Ng s s' bn bx v v'->NM tk s' bb bn bx k' v'->R (.J (jq tk n)) s'):
 YG (EK LF) 108 [.int .i64 (n:Nat),.Z bn 0,.Z bx 0,.Z bb 0] s R RP:=by
 refine Ar U ?_;have hE:s.u.b<=s.u.a:=Qj _;have h0:NM tk s.u bb bn bx k v:=h.same rfl rfl;refine Ew U<|Sq<|Sb<|Ai (fun x:Nat×AV×St=>([(0,.int .i64 (n:Nat)),(1,.Z bn 0),(2,.Z bx 0),(3,.Z bb 0)],x.2.2)) (fun x=>100-x.1) (fun x=>Ng s.u x.2.2 bn bx v x.2.1/\NM tk x.2.2 bb bn bx x.1 x.2.1) (k,v,s.u) ⟨Ng.refl,h0⟩ U (Ac (by trivial)) ?_;rintro⟨j,vj,st⟩ ⟨hg,hm⟩;dsimp only at hg hm|-;have tK:=hm;obtain⟨m1,m2,m3,m4,o2,o3,o4,own,le⟩:=hm;have hlen:=c_.len m2;have tF:=hg.qz hE;have hfh:=frL_held tk j;have hhe:=WY tk le;by_cases uX:(qS tk j).length<=n
 .have hj:j<100:=by omega
  have hfs:=Ti tk j;rw[free_eq hj]at hfs;have sK:LF 109 [.int .i64 (j:Nat)]=some (.J (j' j)):=hq_109 (by omega);have p4:LF 110 [.J (j' j)]=some (.bool false):=by
   have:=hq_110 (w:=j' j);rw[TT hj]at this;exact this
  have pC:LF 111 [CY tk,.J (j' j)]=some (.bool (decide (j' j∈tk))):=hq_111 (by omega);obtain⟨sP,wz⟩:∃x,x=st.B bx (some (.J [.int .i64 ((j+1:Nat):Int)] 3 false)):=⟨_,rfl⟩
  have pP:∀c,c≠bx->sP.heap.u c=st.heap.u c:=fun c hc=>by rw[wz,AF,if_neg hc]
  have xP:sP.heap.u bx=some (.J [.int .i64 ((j+1:Nat):Int)] 3 false):=by rw[wz];exact AF.trans (if_pos rfl)
  have nP:sP.a=st.a:=by rw[wz];rfl
  have gP:Ng s.u sP bn bx v vj:=by
   rw[wz];exact⟨hg.eQ.trans YS.B (fun _ h=>h) (fun c hc=> .inl (.inr (.inl hc))) hE,hg.own,hg.pB.trans Cu.A⟩
  have m1P:=(pP bn (by omega)).trans m1;have m4P:=(pP bb (by omega)).trans m4;have m2P:c_ sP 9 1 vj ((qS tk j).map .J) (qS tk j).length:=m2.aI (by omega) fun c hc=>pP c (by have:=own c hc;omega);have hbP:=gP.qz hE;focus
   refine Sq<|Es<|Lo (kl U m1 U) U<|Lq (kn U hlen) U<|Lw U<|Cd U (fun h1=>?_) (fun h1=>?_);refine Sk<|Sb<|Es<|Lo (kl U m3 U) U<|Lo (kc U (sK)) U<|Lw U<|Es<|Lo (kl U m3 U) U<|Lq (ka (b:=1) U (by omega)) U<|Ln (kw U m3 U) U<|Ld ?_;rotate_left;omega
  refine AJ fun sX bm=>?_;obtain rfl:sX=sP:=bm.trans wz.symm;clear bm wz;cases hct:decide (j' j∈tk)with
  |true=>
   rw[hct]at pC hfs;rw[if_neg (by decide)]at hfs;refine Es<|qm U<|Lo (kc U (p4)) U<|Lv 2 U<|Lg U U (kl U m4P U)<|Lv 1 U<|Lg U U (kc U (pC))<|Lw U<|Tf U<|Sk ?_;exact⟨(j+1,vj,sX),⟨gP,m1P,by rw[hfs];exact m2P,xP,m4P,o2,o3,by show bx<sX.a;omega,own,by show j+1<=100;omega⟩,by show 100-(j+1)<100-j;omega,U,U,Ac (by trivial)⟩
  |false=>
   rw[hct]at pC hfs;rw[if_pos (by decide)]at hfs;refine Es<|qm U<|Lo (kc U (p4)) U<|Lv 2 U<|Lg U U (kl U m4P U)<|Lv 1 U<|Lg U U (kc U (pC))<|Lw U<|Tt U<|Sr<|Lo (kl U m1P U) U<|qm U<|Lo (Bv U MM Ia tn U U U) U<|DT m2P U (by decide) (AP (by omega) (by decide)) (AP (by omega) (by decide)) U U U U MM Ia sH tn U U U U U U U fun v6 s6 f6 o6 c6 l6=>?_;have n6:=c6.a;have p6:∀c,c<=bx->s6.heap.u c=sX.heap.u c:=fun c hc=>c6.heap c (by omega) fun e=>by have:=own c e;omega
   have Zc:=TQ ((p6 bn (by omega)).trans m1P) f6.sl;refine Ln (Ek U sz_67 U U Zc) U<|Ld ?_;have p7:∀c,c≠bn->(s6.B bn (some (.J [v6] 67 false))).heap.u c=s6.heap.u c:=fun c hc=>by rw[AF,if_neg hc]
   refine⟨(j+1,v6,s6.B bn (some (.J [v6] 67 false))),⟨⟨?_,fun c hc=> .inr (by have:=o6 c hc;have:=gP.eQ.a;omega),(gP.pB.trans (l6 hbP)).trans Cu.A⟩,AF.trans (if_pos U),?_,(p7 bx (by omega)).trans ((p6 bx (Qj _)).trans xP),(p7 bb (by omega)).trans ((p6 bb (by omega)).trans m4P),o2,o3,by show bx<s6.a;omega,fun c hc=>by have:=o6 c hc;omega,by dsimp only;omega⟩,by show 100-(j+1)<100-j;omega,rfl,rfl,Ac (by trivial)⟩
   .exact(gP.eQ.trans c6 (own:=fun c=>c=bn\/c=bx\/CT c v=true) (fun _ h=>h) (fun c hc=>(gP.own c hc).imp (fun h=> .inr (.inr h)) id) hE).trans YS.B (fun _ h=>h) (fun c hc=> .inl (.inl hc)) hE
   .have f7:c_ s6 9 1 v6 ((qS tk (j+1)).map .J) (qS tk (j+1)).length:=by
     rw[hfs,Qm,List.map_append];exact f6
    exact f7.aI (Qj _) fun c hc=>p7 c (by have:=o6 c hc;omega)
 .obtain⟨b,rfl,hvg,hvn⟩:=nm_at tK (show n<(qS tk j).length by omega);have hld:Zd (EK LF) 9 st (.Z b (0+n*(0+1)))=some (.J (jq tk n)):=A4 s9 Ia hvg (by rw[Nat.zero_add,Nat.zero_add,Nat.mul_one];exact hvn);focus
   refine Sq<|Es<|Lo (kl U m1 U) U<|Lw U<|Cd U (fun h1=>?_) (fun h1=>?_);omega;refine Sx<|Ax U<|Es<|Lo (kl U m1 U) U<|qm U<|Lq (kM U (by omega)) U<|Lo (Bs U U hld) U<|Lw U ?_;rotate_left
  exact Se (AC ⟨.inl U,_,rfl,_,Aa U U,AQ U (fun _ _=>rfl) (fun _=>rfl) (fun _=>hR k v s Ng.refl h) (fun _=>hR j _ _ (hg.back hb) (tK.same U U))⟩)
abbrev NF (bn bx bb:Nat):AV:= .G' (.func 108) [] [.Z bn 0,.Z bx 0,.Z bb 0]
structure t_ (s:St) (bx:Nat) (v:AV) (b:Nat):Prop where
 lt:b<s.a
 a:bx<b
 no:CT b v=false
theorem Ng.kp {s s':St} {tk:List Zi} {bb bn bx k b:Nat} {v v':AV} (g:Ng s s' bn bx v v') (h:NM tk s bb bn bx k v) (hk:t_ s bx v b):s'.heap.u b=s.heap.u b/\t_ s' bx v' b:=by
 have h3:=h.o3;have hg:=hk.a;have hl:=hk.lt;refine⟨g.eQ.heap b hk.lt fun h1=>?_,⟨Nat.lt_of_lt_of_le hk.lt g.eQ.a,hk.a,?_⟩⟩
 .rcases h1 with h1|h1|h1
  .omega
  .omega
  .rw[hk.no]at h1;cases h1
 .cases hh:CT b v' with
  |false=>rfl
  |true=>
   rcases g.own b hh with h1|h1
   .rw[hk.no]at h1;cases h1
   .omega
theorem NM.kp {s:St} {tk:List Zi} {bb bn bx k b:Nat} {v:AV} (h:NM tk s bb bn bx k v) {s':St} (hs:s.a<=b) (hb:b<s'.a):t_ s' bx v b:=⟨hb,by have:=h.o4;omega,by
 cases hh:CT b v with
 |false=>rfl
 |true=>have:=h.gr.own hh;omega⟩
theorem Ng.merged {S s2:St} {tk:List Zi} {bb bn bx k:Nat} {v v':AV} (g:Ng (S.J S.heap) s2 bn bx v v') (h:NM tk s2 bb bn bx k v') (hb:S.b<=S.a):S.a<=s2.a/\(∀c∈s2.c,c<S.a/\(c=bn\/c=bx\/CT c v=true))/\Ng S (S.G s2) bn bx v v'/\NM tk (S.G s2) bb bn bx k v':=by
 have hn:S.a<=s2.a:=g.eQ.a;have:=h.o2;have:=h.o3;have:=h.o4;have hm:∀c,c<s2.a->(S.G s2).heap.u c=s2.heap.u c:=El hn g.pB rfl;refine⟨hn,fun c hc=>?_,⟨g.eQ.G,g.own,Cu.I hn g.pB hb⟩,⟨(hm bn (by omega)).trans h.nm,h.gr.aI (Qj _) fun c hc=>hm c (h.gr.own hc),(hm bx (by omega)).trans h.nx,(hm bb (by omega)).trans h.bt,h.o2,h.o3,h.o4,h.own,h.le⟩⟩;rcases g.eQ.d c hc with h1|h1
 .cases h1
 .exact h1
theorem NM.eQ {tk:List Zi} {bb bn bx:Nat} {s s':St} {k:Nat} {v:AV} {own:Nat->Prop} (h:NM tk s bb bn bx k v) (c:YS s s' own) (ho:∀d,own d->bx<d/\CT d v=false):NM tk s' bb bn bx k v:=by
 have:=h.o2;have:=h.o3;have:=h.o4;have hn:=c.a;have lo:∀d,d<=bx->s'.heap.u d=s.heap.u d:=fun d hd=>c.heap d (by omega) fun h=>by have:=(ho d h).1;omega
 exact⟨(lo bn (by omega)).trans h.nm,h.gr.aI hn (fun d hd=>c.heap d (h.gr.own hd) fun h2=>(by rw[(ho d h2).2]at hd;cases hd)),(lo bx (by omega)).trans h.nx,(lo bb (by omega)).trans h.bt,h.o2,h.o3,by omega,h.own,h.le⟩
end Go.Proofs.YtfhimfcbphepeaaGreatDoor.Ty
open Go Am
namespace Am
section
variable {E : a_} {s : St} {f : FuncId} {fn : Func} {c : Code} {args : List AV} {fr : Fr} {l0 : Sl}
def EndN (E:a_) (rs:List ResultVar) (s:St) (G:List Y2->Nat->Prop) (ex:Ex) (fr:Fr) (l:Sl) (st:St):Prop:=
 (ex= .Z\/ex= .J)/\fr.defers=[]/\st.c=[]/\YS s.u st (fun _=>False)/\Cu s.u st/\∃b es c,CO E st l rs=some [.H_ b]/\s.a<=b/\b<st.a/\st.heap.u b=some (.O es c)/\G es c
theorem N8 {rs:List ResultVar} {G:List Y2->Nat->Prop} {ev:Ev} {r:dJ} {S:St} (hz:E.e f=1) (hS:S.a=s.a) (hr:fn.results.toList=rs) (h:ij (EndN E rs s G) r):
 ∃b es c,ZF E ev f fn S r=some (.J (.H_ b) (S.M r.a))/\s.a<=b/\b<r.a.a/\r.a.heap.u b=some (.O es c)/\G es c/\r.a.c=[]/\YS s.u r.a (fun _=>False)/\Cu s.u r.a:=by
 obtain⟨l,⟨hex,hd,hl,hc,hg,b,es,c,Zh,hb,jA,hh,hG⟩,hT⟩:=h;obtain⟨ex,ZN,T',s'⟩:=r;subst hr;refine⟨b,es,c,?_,hb,jA,hh,hG,hl,hc,hg⟩;unfold ZF;have kQ:gu ex=some none:=by rcases hex with h|h<;>(cases h;rfl)
 have hd:ZN.defers=[]:=hd;have hu:Cw S.a 40 (.H_ b)=false:=by
  show Nat.blt b S.a=false;rw[<-Bool.not_eq_true,Nat.blt_eq];omega
 have ss:k_ E f S (.H_ b) s'=some (.J (.H_ b) (S.M s')):=ES hz hl rfl hu;simp only[kQ,Qe,hd,x_,r9,BG hT Zh];exact ss
def PN2 (s:St) (G:List Y2->Nat->Prop) (o:AV×St):Prop:=∃b es c,o.1= .H_ b/\s.a<=b/\o.2.c=[]/\o.2.heap.u b=some (.O es c)/\G es c
theorem Rb {rs:List ResultVar} {G:List Y2->Nat->Prop} {ev:Ev} {r:dJ} (hz:E.e f=1) (hr:fn.results.toList=rs) (h:ij (EndN E rs s G) r):∃o,D_ s.I (ZF E ev f fn s.I r)=some o/\PN2 s G o:=by
 obtain⟨b,es,c,h1,h2,_,h3,h4,h5,_⟩:=N8 (s:=s) (ev:=ev) (S:=s.I) hz rfl hr h;rw[h1];refine⟨(.H_ b,s.I.M r.a),U,b,es,c,U,h2,?_,h3,h4⟩;show below _ r.a.c []=[]
 rw[h5];rfl
theorem IK {rs:List ResultVar} {G:List Y2->Nat->Prop} {ev:Ev} (hz:E.e f=1) (hr:fn.results.toList=rs):∀ {l:List dJ},(∀r∈l,ij (EndN E rs s G) r)->∃os,b9 E ev f fn s l=some os/\∀o∈os,PN2 s G o
 | [],_=>⟨[],rfl,fun _ h=>absurd h List.not_mem_nil⟩
 |r::l,h=>by
  obtain⟨o,h1,h2⟩:=Rb (s:=s) (ev:=ev) hz hr (h r Qh);obtain⟨os,h3,h4⟩:=IK (ev:=ev) hz hr fun x hx=>h x (Qg _ hx);refine⟨o::os,?_,fun x hx=>?_⟩
  .unfold b9;rw[h1,h3];rfl
  .rcases Qk.1 hx with rfl|hx
   .exact h2
   .exact h4 x hx
theorem Qv {rs:List ResultVar} {G:List Y2->Nat->Prop} (hm:E.d f args=none) (hf:E.a.u f=some fn) (hc:fn.body=some c) (hr:fn.results.toList=rs) (cI:frame fn.ntmps args none=fr) (hl:bV 0 args []=l0)
 (hz:E.e f=1) (uV:E.c=true) (hb:s.b<=s.a) (hG:∀es c fI c',G es c->G fI c'->c=c'/\Y5 0 es fI=true/\YD c es=true/\cg 0 (some (.O es c))=true)
 (h:CE E c fr l0 s.u (EndN E rs s G)):CD E f args s fun v s'=>∃b es c,v= .H_ b/\s.a<=b/\b<s'.a/\s'.heap.u b=some (.O es c)/\G es c/\s'.c=s.c/\YS s s' (fun _=>False)/\Cu s s':=by
 subst cI hl;obtain⟨N,o,ho,gD⟩:=h _ (BZ args 0 (k8.nil .J));have run:∀n,N+1<=n->Y8 E (ev E n) f args s=dj E (ev E n) f fn s o:=by
  intro n hn;obtain⟨m,rfl⟩:∃m,n=m+1:=⟨n-1,by omega⟩
  unfold Y8;rw[hm];simp only[hf,hc,Qe];rw[Ea,gD m (by omega)]
 cases o with
 |J=>exact ho.elim
 |one r=>
  obtain⟨b,es,c,h1,h2,h2',h3,h4,h5,h6,h7⟩:=N8 (s:=s) (ev:=ev E 0) (S:=s) hz rfl hr ho;have same:∀n,dj E (ev E n) f fn s (.one r)=some (.J (.H_ b) (s.M r.a)):=fun n=>by
   obtain⟨b',_,_,k1,_,_,_,_,_⟩:=N8 (s:=s) (ev:=ev E n) (S:=s) hz rfl hr ho;show ZF E (ev E n) f fn s r=_;have e:ZF E (ev E n) f fn s r=ZF E (ev E 0) f fn s r:=by
    obtain⟨l,⟨hex,hd,_⟩,_⟩:=ho;have hd:r.b.defers=[]:=hd;unfold ZF;simp only[hd,x_]
   rw[e];exact h1
  refine⟨N+1,_,fun n hn=>(run n hn).trans (same n),b,es,c,rfl,h2,h2',h3,h4,?_,YS.A h6,Cu.G h7 hb⟩;show below _ r.a.c s.c=s.c;rw[h5];rfl
 |O rs'=>
  cases rs' with
  |nil=>exact absurd rfl ho.1
  |cons r l=>
   have hg:=ho.2 r Qh;suffices hh:∀n,∃es c,dj E (ev E n) f fn s (.O (r::l))=some (.J (.H_ s.a) (s.A (.O es c)))/\G es c/\∃b,r.a.heap.u b=some (.O es c)/\ZF E (ev E n) f fn s.I r=some (.J (.H_ b) (s.I.M r.a)) by
    obtain⟨es,c,h1,h2,b,h3,h4⟩:=hh 0;have same:∀n,dj E (ev E n) f fn s (.O (r::l))=some (.J (.H_ s.a) (s.A (.O es c))):=fun n=>by
     obtain⟨fI,c',k1,_,b',k3,k4⟩:=hh n;have e:ZF E (ev E n) f fn s.I r=ZF E (ev E 0) f fn s.I r:=by
      obtain⟨l,⟨hex,hd,_⟩,_⟩:=hg;have hd:r.b.defers=[]:=hd;unfold ZF;simp only[hd,x_]
     rw[k4,h4]at e;simp only[Option.some.injEq,CR.J.injEq,AV.H_.injEq,and_true]at e;rw[e,h3]at k3;simp only[Option.some.injEq,Cv.O.injEq]at k3;rw[k1,k3.1,k3.2]
    refine⟨N+1,_,fun n hn=>(run n hn).trans (same n),s.a,es,c,rfl,Qj _,Nat.lt_succ_self _,A1,h2,rfl,YS.u,Cu.u hb⟩
   intro n;obtain⟨b,es,c,h1,h2,h2',h3,h4,h5,h6,h7⟩:=N8 (s:=s) (ev:=ev E n) (S:=s.I) hz rfl hr hg;obtain⟨os,hos1,hos2⟩:=IK (s:=s) (E:=E) (f:=f) (ev:=ev E n) hz hr fun x hx=>ho.2 x (Qg _ hx);refine⟨es,c,?_,h4,b,h3,h1⟩;show cH E (ev E n) f fn s r l (v_ E (ev E n) f fn s r l)=_;have pr:v_ E (ev E n) f fn s r l=none:=by
    unfold v_;rw[h1];rfl
   have CU:(s.I.M r.a).c=[]:=by
    show below _ r.a.c []=[]
    rw[h5];rfl
   have hfm:bC s.a (.H_ b,s.I.M r.a)=some (es,c):=by
    unfold bC;simp only[CU];show(bif Nat.ble s.a b then(match r.a.heap.u b with
     |some (.O es c)=>some (es,c)
     |_=>none)else none)=_
    rw[Qd h2,h3];rfl
   have hlike:∀L:List (AV×St),(∀q∈L,PN2 s G q)->ej s.a es c L=true:=by
    intro L;induction L with
    |nil=>intro _;rfl
    |cons q L ih=>
     intro hq;obtain⟨b',fI,c',q1,q2,q3,q4,q5⟩:=hq q Qh;obtain⟨g1,g2,_,_⟩:=hG es c fI c' h4 q5;obtain⟨_,_,_,g4⟩:=hG fI c' es c q5 h4;have hf2:bC s.a q=some (fI,c'):=by
      unfold bC;rw[q1,q3];show(bif Nat.ble s.a b' then(match q.2.heap.u b' with
       |some (.O es c)=>some (es,c)
       |_=>none)else none)=_
      rw[Qd q2,q4];rfl
     unfold ej;rw[hf2,ih fun x hx=>hq x (Qg _ hx)];show(Nat.beq c' c&&Y5 0 es fI&&cg 0 (some (.O fI c'))&&true)=true;rw[g2,g4,g1];simp
   have ZI:∀q∈(AV.H_ b,s.I.M r.a)::os,PN2 s G q:=fun q hq=>by
    rcases Qk.1 hq with rfl|hq
    .exact⟨b,es,c,U,h2,CU,h3,h4⟩
    .exact hos2 q hq
   unfold cH;rw[pr];unfold lF;simp only[uV,cond_true,h1,D_,hos1,Qe];have yu:cU s (.H_ b,s.I.M r.a) os=some (.J (.H_ s.a) (s.A (.O es c))):=by
    unfold cU;rw[hfm];simp only[Qe,hlike _ ZI,(hG es c es c h4 h4).2.2.1,Bool.and_self,cond_true]
   have yS:iI s (.H_ b,s.I.M r.a) os (ZG ((AV.H_ b,s.I.M r.a)::os) [])=none:=by
    have hu:Cw s.a 40 (.H_ b)=false:=by
     show Nat.blt b s.a=false;rw[<-Bool.not_eq_true,Nat.blt_eq];omega
    have hl:di s.a s (.H_ b,s.I.M r.a) (ZG ((AV.H_ b,s.I.M r.a)::os) []) ((.H_ b,s.I.M r.a)::os)=false:=by
     unfold di;simp only[hu,Bool.and_false,Bool.false_or];rfl
    unfold iI;rw[hl];rfl
   rw[yu,yS];rfl
end
theorem EP {seen:List Nat} {e:Y2}:∀ {es:List Y2},e∈YY seen es->e∈es/\ft e.2.2 seen=false
 | [],h=>absurd h List.not_mem_nil
 |x::es,h=>by
  unfold YY at h;cases hs:ft x.2.2 seen with
  |true=>
   rw[hs,cond_true]at h;exact⟨Qg _ (EP h).1,(EP h).2⟩
  |false=>
   rw[hs,cond_false]at h;rcases Qk.1 h with rfl|h
   .exact⟨Qh,hs⟩
   .exact⟨Qg _ (EP h).1,(EP h).2⟩
end Am
namespace Go.Proofs.YtfhimfcbphepeaaGreatDoor.Ty
def tS:Nat->Zi×Int
 |0=>([61,58,61],11)
 |1=>([61,61],12)
 |_=>([60],15)
def sS:Nat->Zi×Int
 |0=>([43],13)
 |_=>([45],14)
abbrev w7 (x:Zi×Int) (n:Nat):Y2:=(.J x.1,.int .i64 x.2,n)
def bK:List Y2:=[w7 (tS 0) 0,w7 (tS 1) 1,w7 (tS 2) 2]
def ez:List Y2:=[w7 (sS 0) 0,w7 (sS 1) 1]
abbrev oh (x:Zi) (a b c:Int):AV:= .agg [.J x,.int .i64 a,.int .i64 b,.int .i64 c]
def x4:Nat->List Nat->List Y2
 |_,[]=>[]
 |n,k::l=>(.int .i64 (tS k).2,oh (tS k).1 2 3 3,n)::x4 (n+1) l
def vl:Nat->List Nat->List Y2
 |_,[]=>[]
 |n,k::l=>(.int .i64 (sS k).2,oh (sS k).1 3 3 4,n)::vl (n+1) l
def baseE:List Y2:=[(.int .i64 7,oh [63] 0 1 0,0),(.int .i64 10,oh [38] 1 2 1,1),(.int .i64 6,oh [64] 4 4 5,2)]
def bo (p q:List Nat):List Y2:=baseE++x4 3 p++vl (3+p.length) q
def P1:List (List Nat):=[[],[0],[1],[2],[0,1],[0,2],[1,0],[1,2],[2,0],[2,1],[0,1,2],[0,2,1],[1,0,2],[1,2,0],[2,0,1],[2,1,0]]
def P6:List (List Nat):=[[0,1,2],[0,2,1],[1,0,2],[1,2,0],[2,0,1],[2,1,0]]
def P2:List (List Nat):=[[],[0],[1],[0,1],[1,0]]
def Q2:List (List Nat):=[[0,1],[1,0]]
def isNo (o:Option (Option Y2)):Bool:=match o with
 |some none=>true
 |_=>false
theorem SR {o:Option (Option Y2)} (h:isNo o=true):o=some none:=by
 match o,h with
 |some none,_=>rfl
theorem step1 {p:List Nat} {e:Y2} (hp:p∈P1) (he:e∈YY p bK):∃k,e=w7 (tS k) k/\p++[k]∈P1/\Zl kZ (.int .i64 (tS k).2) (bo p [])=some none/\dh k bK=some (w7 (tS k) k)/\(YY (p++[k]) bK).length<(YY p bK).length:=by
 obtain⟨h1,h2⟩:=EP he;have key:((P1.all fun p=>(List.range 3).all fun k=>ft k p||(P1.contains (p++[k])&&(isNo (Zl kZ (.int .i64 (tS k).2) (bo p []))&&Nat.blt (YY (p++[k]) bK).length (YY p bK).length))))=true:=by kernel_rfl
 have go:∀k,k<3->ft k p=false->p++[k]∈P1/\Zl kZ (.int .i64 (tS k).2) (bo p [])=some none/\(YY (p++[k]) bK).length<(YY p bK).length:=fun k hk hs=>by
  have:=List.all_eq_true.1 (List.all_eq_true.1 key p hp) k (List.mem_range.2 hk);rw[hs,Bool.false_or,Qf,Qf]at this;exact⟨by simpa using this.1,SR this.2.1,by simpa[Nat.blt_eq]using this.2.2⟩
 simp only[bK,Qk,List.not_mem_nil,or_false]at h1;rcases h1 with rfl|rfl|rfl
 .have:=go 0 (by decide) h2;exact⟨0,rfl,this.1,this.2.1,rfl,this.2.2⟩
 .have:=go 1 (by decide) h2;exact⟨1,rfl,this.1,this.2.1,rfl,this.2.2⟩
 .have:=go 2 (by decide) h2;exact⟨2,rfl,this.1,this.2.1,rfl,this.2.2⟩
theorem done1 {p:List Nat} (hp:p∈P1) (h:YY p bK=[]):p∈P6:=by
 have key:(P1.all fun p=> !(YY p bK).isEmpty||P6.contains p)=true:=by kernel_rfl
 have:=List.all_eq_true.1 key p hp;rw[h]at this;simpa using this
theorem step2 {p q:List Nat} {e:Y2} (hp:p∈P6) (hq:q∈P2) (he:e∈YY q ez):∃k,e=w7 (sS k) k/\q++[k]∈P2/\Zl kZ (.int .i64 (sS k).2) (bo p q)=some none/\dh k ez=some (w7 (sS k) k)/\(YY (q++[k]) ez).length<(YY q ez).length:=by
 obtain⟨h1,h2⟩:=EP he;have key:(P6.all fun p=>P2.all fun q=>(List.range 2).all fun k=>ft k q||(P2.contains (q++[k])&&(isNo (Zl kZ (.int .i64 (sS k).2) (bo p q))&&Nat.blt (YY (q++[k]) ez).length (YY q ez).length)))=true:=by kernel_rfl
 have go:∀k,k<2->ft k q=false->q++[k]∈P2/\Zl kZ (.int .i64 (sS k).2) (bo p q)=some none/\(YY (q++[k]) ez).length<(YY q ez).length:=fun k hk hs=>by
  have:=List.all_eq_true.1 (List.all_eq_true.1 (List.all_eq_true.1 key p hp) q hq) k (List.mem_range.2 hk);rw[hs,Bool.false_or,Qf,Qf]at this;exact⟨by simpa using this.1,SR this.2.1,by simpa[Nat.blt_eq]using this.2.2⟩
 simp only[ez,Qk,List.not_mem_nil,or_false]at h1;rcases h1 with rfl|rfl
 .have:=go 0 (by decide) h2;exact⟨0,rfl,this.1,this.2.1,rfl,this.2.2⟩
 .have:=go 1 (by decide) h2;exact⟨1,rfl,this.1,this.2.1,rfl,this.2.2⟩
theorem done2 {q:List Nat} (hq:q∈P2) (h:YY q ez=[]):q∈Q2:=by
 have key:(P2.all fun p=> !(YY p ez).isEmpty||Q2.contains p)=true:=by kernel_rfl
 have:=List.all_eq_true.1 key q hq;rw[h]at this;simpa using this
def GO (es:List Y2) (c:Nat):Prop:=c=8/\∃p∈P6,∃q∈Q2,es=bo p q
theorem W2 (es:List Y2) (c:Nat) (fI:List Y2) (c':Nat) (h:GO es c) (h':GO fI c'):c=c'/\Y5 0 es fI=true/\YD c es=true/\cg 0 (some (.O es c))=true:=by
 obtain⟨rfl,p,hp,q,hq,rfl⟩:=h;obtain⟨rfl,p',zQ,q',hq',rfl⟩:=h';have key:(P6.all fun p=>Q2.all fun q=>P6.all fun p'=>Q2.all fun q'=>Y5 0 (bo p q) (bo p' q')&&(YD 8 (bo p q)&&cg 0 (some (.O (bo p q) 8))))=true:=by kernel_rfl
 have:=List.all_eq_true.1 (List.all_eq_true.1 (List.all_eq_true.1 (List.all_eq_true.1 key p hp) q hq) p' zQ) q' hq';rw[Qf,Qf]at this;exact⟨U,this.1,this.2.1,this.2.2⟩
def ju (o:Int):Zi×Int×Int×Int:=if o=6 then([64],4,4,5)else if o=7 then([63],0,1,0)else if o=10 then([38],1,2,1)else if o=11 then([61,58,61],2,3,3)else if o=12 then([61,61],2,3,3)else if o=13 then([43],3,3,4)else if o=14 then([45],3,3,4)else if o=15 then([60],2,3,3)else([],0,0,0)
def qT (o:Int):Bool:=decide (o=6\/o=7\/(10<=o/\o<=15))
theorem P5 {z:Int}:∀ {es:List Y2},(∀e∈es,∃x,e.1= .int .i64 x/\z≠x)->Zl kZ (.int .i64 z) es=some none
 | [],_=>rfl
 |e::es,h=>by
  obtain⟨x,h1,h2⟩:=h e Qh;unfold Zl;rw[h1,eqZ,decide_eq_false h2,Qe,P5 fun q hq=>h q (Qg _ hq)];rfl
theorem look_op {st:St} {b c:Nat} {es:List Y2} (hg:st.heap.u b=some (.O es c)) (hG:GO es c) (o:Int):cF kZ st true (oh [] 0 0 0) (.H_ b) (.int .i64 o)=some (.O [oh (ju o).1 (ju o).2.1 (ju o).2.2.1 (ju o).2.2.2,.bool (qT o)]):=by
 obtain⟨rfl,p,hp,q,hq,rfl⟩:=hG;have h0:cF kZ st true (oh [] 0 0 0) (.H_ b) (.int .i64 o)=(Zl kZ (.int .i64 o) (bo p q)).bind fun r=>some (j1 true (oh [] 0 0 0) r):=by
  show((iB st (.H_ b)).bind fun es=>(Zl _ _ es).bind fun r=>some (j1 true _ r))=_;rw[show iB st (.H_ b)=some (bo p q)from by show jy (st.heap.u b)=_;rw[hg];rfl,Qe]
 rw[h0];have key:(P6.all fun p=>Q2.all fun q=>[6,7,10,11,12,13,14,15].all fun o:Int=>match Zl kZ (.int .i64 o) (bo p q)with
  |some (some e)=>bM e.2.1 (oh (ju o).1 (ju o).2.1 (ju o).2.2.1 (ju o).2.2.2)
  |_=>false)=true:=by kernel_rfl
 by_cases ho:o∈[6,7,10,11,12,13,14,15]
 .have hi:qT o=true:=by
   unfold qT;simp only[Qk,List.not_mem_nil,or_false]at ho;exact decide_eq_true (by omega)
  have:=List.all_eq_true.1 (List.all_eq_true.1 (List.all_eq_true.1 key p hp) q hq) o ho;cases hf:Zl kZ (.int .i64 o) (bo p q)with
  |none=>rw[hf]at this;cases this
  |some r=>
   cases r with
   |none=>rw[hf]at this;cases this
   |some e=>
    rw[hf]at this;have:=He this;show some (AV.O [e.2.1,.bool true])=_;rw[this,hi]
 .have hi:qT o=false:=by
   unfold qT;simp only[Qk,List.not_mem_nil,or_false]at ho;exact decide_eq_false (by omega)
  have ha:ju o=([],0,0,0):=by
   simp only[Qk,List.not_mem_nil,or_false,not_or]at ho;unfold ju;rw[if_neg ho.1,if_neg ho.2.1,if_neg ho.2.2.1,if_neg ho.2.2.2.1,if_neg ho.2.2.2.2.1,if_neg ho.2.2.2.2.2.1,if_neg ho.2.2.2.2.2.2.1,if_neg ho.2.2.2.2.2.2.2]
  have key2:(P6.all fun p=>Q2.all fun q=>(bo p q).all fun e=>match e.1 with
   | .int .i64 x=>[6,7,10,11,12,13,14,15].contains x
   |_=>false)=true:=by kernel_rfl
  rw[P5 fun e he=>?_,hi,ha]
  .rfl
  .have:=List.all_eq_true.1 (List.all_eq_true.1 (List.all_eq_true.1 key2 p hp) q hq) e he;obtain⟨k,v,n⟩:=e
   match k,this with
   | .int .i64 x,h=>exact⟨x,rfl,fun e=>ho (by rw[e];simpa using h)⟩
theorem Fp {kd:Am.Kd} {st:St} {b c:Nat} {es:List Y2} {k v:AV} (hg:st.heap.u b=some (.O es c)) (hk:iz kd k=true) (hf:Zl kd k es=some none):eR kd st k v (.H_ b)=some (st.B b (some (.O (es++[(k,v,c)]) (c+1)))):=by
 unfold eR;simp only[hk,cond_true];unfold gV;rw[hg];simp only[hf,Qe]
def RO (s:St) (es:List Y2) (c:Nat) (v:AV) (s':St):Prop:=v= .H_ s.a/\YS s s' (fun _=>False)/\Cu s s'/\s'.a=s.a+1/\s'.heap.u s.a=some (.O es c)
theorem OZ {s st:St} {b c:Nat} {es:List Y2} {E:a_} {f:FuncId} (hf:E.e f=1) (hb:s.b<=s.a) (iO:b=s.a) (hl:st.c=[]) (hc:YS s.u st (fun _=>False)) (hg:Cu s.u st) (hn:st.a=s.a+1) (hm:st.heap.u b=some (.O es c)):
 ∃cr,k_ E f s (.H_ b) st=some cr/\match cr with
  | .same v=>RO s es c v s
  | .J v s'=>RO s es c v s'
  | .O _ _=>False:=by
 subst iO;refine⟨_,ES hf hl U ?_,U,YS.A hc,Cu.G hg hb,hn,hm⟩;show Nat.blt s.a s.a=false;rw[<-Bool.not_eq_true,Nat.blt_eq];omega
theorem BY {s st:St} {b:Nat} {o1:Option Cv} (hE:s.b<=s.a) (h:YS s st (fun _=>False)/\Cu s st) (hb:s.a<=b):YS s (st.B b o1) (fun _=>False)/\Cu s (st.B b o1):=
 ⟨h.1.trans YS.B (fun _ h=>h) (fun c h=> .inr (by rw[h];exact hb)) hE,h.2.trans Cu.A⟩
theorem Ns {s st:St} (h:YS s.u st (fun _=>False)):st.c=[]:=List.eq_nil_iff_forall_not_mem.2 fun c hc=>by
 rcases h.d c hc with h|h
 .cases h
 .exact h.2
theorem Vt {s:St} (hb:s.b<=s.a):CD (EK LF) 280 [.int .i64 2] s (RO s bK 3):=by
 refine CD.gen (fn:=Tryz.f280) U U U U U U ?_;have hE:s.u.b<=s.u.a:=Qj _;obtain⟨b,iO⟩:∃b,b=s.a:=⟨_,rfl⟩
 have c1:YS s.u (s.u.A (.O [] 0)) (fun _=>False)/\Cu s.u (s.u.A (.O [] 0)):=⟨YS.u,Cu.u hE⟩
 have g1:(s.u.A (.O [] 0)).heap.u s.a=some (.O [] 0):=A1;refine Ew U<|Sq<|Ew U<|Sb<|Ew U<|Tt U<|Es<|Lo (D5 U Oc) U<|Ln (AT (.inr U) Oc xe U U U (Fp g1 U U)) U ?_;iterate 2 refine Ln (AT (.inr U) Oc xe U U U (Fp (AF.trans (if_pos U)) U U)) U ?_
 refine Lw U ?_;have cc:=BY (o1:=some (.O bK 3)) hE (BY (o1:=some (.O [w7 (tS 0) 0,w7 (tS 1) 1] 2)) hE (BY (o1:=some (.O [w7 (tS 0) 0] 1)) hE c1 (Qj s.a)) (Qj s.a)) (Qj s.a);exact Se ⟨.inl U,_,U,_,Aa U U,OZ U hb U (Ns cc.1) cc.1 cc.2 U (AF.trans (if_pos U))⟩
theorem sums_run {s:St} (hb:s.b<=s.a):CD (EK LF) 280 [.int .i64 3] s (RO s ez 2):=by
 refine CD.gen (fn:=Tryz.f280) U U U U U U ?_;have hE:s.u.b<=s.u.a:=Qj _;have c1:YS s.u (s.u.A (.O [] 0)) (fun _=>False)/\Cu s.u (s.u.A (.O [] 0)):=⟨YS.u,Cu.u hE⟩
 have g1:(s.u.A (.O [] 0)).heap.u s.a=some (.O [] 0):=A1;refine Ew U<|Sq<|Ew U<|Sb<|Ew U<|Tf U<|Ew U<|Tt U<|Es<|Lo (D5 U Oc) U<|Ln (AT (.inr U) Oc xe U U U (Fp g1 U U)) U<|Ln (AT (.inr U) Oc xe U U U (Fp (AF.trans (if_pos U)) U U)) U<|Lw U ?_;have cc:=BY (o1:=some (.O ez 2)) hE (BY (o1:=some (.O [w7 (sS 0) 0] 1)) hE c1 (Qj s.a)) (Qj s.a);exact Se ⟨.inl U,_,U,_,Aa U U,OZ U hb U (Ns cc.1) cc.1 cc.2 U (AF.trans (if_pos U))⟩
structure rE (s:St) (b:Nat) (es:List Y2) (c:Nat) (st:St):Prop where
 d:YS s.u st (fun _=>False)
 f:Cu s.u st
 a:st.heap.u b=some (.O es c)
 lt:b<st.a
 e:s.a<=b
theorem rE.B {s st:St} {b c:Nat} {es:List Y2} (h:rE s b es c st):st.b<=st.a:=by
 rw[h.d.b];exact Nat.le_trans (Qj _) h.d.a
theorem rE.step {s st Zy:St} {b c:Nat} {es:List Y2} (h:rE s b es c st) (hc:YS st Zy (fun _=>False)) (hl:Cu st Zy):rE s b es c Zy:=
 ⟨h.d.trans hc (fun _ h=>h) (fun _ h=>h.elim) (Qj _),h.f.trans hl,(hc.heap b h.lt id).trans h.a,Nat.lt_of_lt_of_le h.lt hc.a,h.e⟩
theorem rE.u {s st:St} {b c x:Nat} {es:List Y2} {o:Option Cv} (h:rE s b es c st) (hx:s.a<=x) (hn:x≠b):rE s b es c (st.B x o):=
 have cc:=BY (o1:=o) (Qj s.u.a) ⟨h.d,h.f⟩ hx
 ⟨cc.1,cc.2,(AF.trans (if_neg (Ne.symm hn))).trans h.a,h.lt,h.e⟩
theorem rE.A {s st:St} {b c c':Nat} {es fI:List Y2} (h:rE s b es c st):rE s b fI c' (st.B b (some (.O fI c'))):=
 have cc:=BY (o1:=some (.O fI c')) (Qj s.u.a) ⟨h.d,h.f⟩ h.e
 ⟨cc.1,cc.2,AF.trans (if_pos rfl),h.lt,h.e⟩
theorem S8:∀(n:Nat) (l:List Nat) (k:Nat),x4 n (l++[k])=x4 n l++[(.int .i64 (tS k).2,oh (tS k).1 2 3 3,n+l.length)]
 |_,[],_=>rfl
 |n,a::l,k=>by
  rw[List.cons_append,x4,S8 (n+1) l k,List.length_cons,x4,show n+1+l.length=n+(l.length+1) by omega];rfl
theorem S9:∀(n:Nat) (l:List Nat) (k:Nat),vl n (l++[k])=vl n l++[(.int .i64 (sS k).2,oh (sS k).1 3 3 4,n+l.length)]
 |_,[],_=>rfl
 |n,a::l,k=>by
  rw[List.cons_append,vl,S9 (n+1) l k,List.length_cons,vl,show n+1+l.length=n+(l.length+1) by omega];rfl
theorem outE_t (p:List Nat) (k:Nat):bo (p++[k]) []=bo p []++[(.int .i64 (tS k).2,oh (tS k).1 2 3 3,3+p.length)]:=by
 unfold bo;rw[S8];simp only[vl,List.append_nil,List.append_assoc]
theorem outE_s (p q:List Nat) (k:Nat):bo p (q++[k])=bo p q++[(.int .i64 (sS k).2,oh (sS k).1 3 3 4,3+p.length+q.length)]:=by
 unfold bo;rw[S9];simp only[List.append_assoc]
theorem Ts {st:St} {r m c k:Nat} {seen:List Nat} {es:List Y2} {x:Zi×Int} (hr:st.heap.u r=some (.Y1 (some m) c (seen++[k]) c)) (hm:st.heap.u m=some (.O es c)) (h:dh k es=some (w7 x k)):j3 st (.Z r 0)=some (.O [.J x.1,.int .i64 x.2]):=by
 show mr st (st.heap.u r)=_;rw[hr];show(qZ (seen++[k])).bind (fun n=>pc c n (st.heap.u m))=_;rw[Pf,Qe,hm];show(bif Nat.beq c c then _ else _)=_;rw[Nat.beq_refl,cond_true,h];rfl
theorem Nf {s:St} (hb:s.b<=s.a):CD (EK LF) 242 [] s fun v s'=>∃b es c,v= .H_ b/\s.a<=b/\b<s'.a/\s'.heap.u b=some (.O es c)/\GO es c/\s'.c=s.c/\YS s s' (fun _=>False)/\Cu s s':=by
 refine Qv (fn:=Tryz.f242) U U U U U U U U hb W2 ?_;have hE:s.u.b<=s.u.a:=Qj _;have g1:(s.u.A (.O [] 0)).heap.u s.a=some (.O [] 0):=A1;refine CE.seq (CE.of ?_);refine Sr<|Lw U<|CE.seq (CE.of ?_);refine Sr<|Lo (D5 U QG) U<|Lv 1 U<|Ln (AT (.inr U) QG U2 U U U (Fp g1 U U)) U<|Lv 1 U<|Ln (AT (.inr U) QG U2 U U U (Fp (AF.trans (if_pos U)) U U)) U<|Lv 1 U<|Ln (AT (.inr U) QG U2 U U U (Fp (AF.trans (if_pos U)) U U)) U<|Lw U ?_;have c1:YS s.u (s.u.A (.O [] 0)) (fun _=>False)/\Cu s.u (s.u.A (.O [] 0)):=⟨YS.u,Cu.u hE⟩
 have cc:=BY (o1:=some (.O (bo [] []) 3)) hE (BY (o1:=some (.O [(.int .i64 7,oh [63] 0 1 0,0),(.int .i64 10,oh [38] 1 2 1,1)] 2)) hE (BY (o1:=some (.O [(.int .i64 7,oh [63] 0 1 0,0)] 1)) hE c1 (Qj s.a)) (Qj s.a)) (Qj s.a);obtain⟨b,iO⟩:∃b,b=s.a:=⟨_,rfl⟩
 have h0:rE s b (bo [] []) 3 ((((s.u.A (.O [] 0)).B s.a (some (.O [(.int .i64 7,oh [63] 0 1 0,0)] 1))).B s.a (some (.O [(.int .i64 7,oh [63] 0 1 0,0),(.int .i64 10,oh [38] 1 2 1,1)] 2))).B s.a (some (.O (bo [] []) 3))):=⟨cc.1,cc.2,by rw[iO];exact AF.trans (if_pos rfl),by rw[iO];exact Nat.lt_succ_self _,Nat.le_of_eq iO.symm⟩
 obtain⟨st,Zc⟩:∃st,st=((((s.u.A (.O [] 0)).B s.a (some (.O [(.int .i64 7,oh [63] 0 1 0,0)] 1))).B s.a (some (.O [(.int .i64 7,oh [63] 0 1 0,0),(.int .i64 10,oh [38] 1 2 1,1)] 2))).B s.a (some (.O (bo [] []) 3))):=⟨_,rfl⟩
 refine CE.at (s':=st) (l':=[(1,.H_ b)]) Zc.symm (by rw[iO];(refine Am.Ac ?_;repeat (first|exact trivial|refine⟨U,?_⟩))) ?_;rw[<-Zc]at h0;clear cc c1 Zc g1;refine CE.seq (CE.seq (CE.of ?_));refine Sr<|kf U (CD.mono (Vt h0.B) ?_);rintro v nr ⟨rfl,k1,k2,k3,k4⟩;have h1:=h0.step k1 k2
 skip
 refine Lo (E8 U Oc U k4) U<|Ld ?_;obtain⟨m,hm⟩:∃m,m=st.a:=⟨_,rfl⟩
 obtain⟨r,hr⟩:∃r,r=nr.a:=⟨_,rfl⟩
 have C8:=h0.lt;have gz:=h0.e;have h2:rE s b (bo [] []) 3 (nr.A (.Y1 (some m) 3 [] 3)):=h1.step YS.u (Cu.u h1.B);have hbm:b<m:=by rw[hm];exact C8
 have hrm:r=m+1:=by rw[hr,hm];exact k3
 have k5:(nr.A (.Y1 (some m) 3 [] 3)).heap.u m=some (.O bK 3):=(Au (by omega)).trans (by rw[hm];exact k4);have k6:(nr.A (.Y1 (some m) 3 [] 3)).heap.u r=some (.Y1 (some m) 3 [] 3):=by rw[hr];exact A1
 have k7:r<(nr.A (.Y1 (some m) 3 [] 3)).a:=by rw[hr];exact Nat.lt_succ_self _
 refine CE.block (CE.tZ (fun x:List Nat×St=>([(12,.Z r 0),(1,.H_ b)],x.2)) (fun x=>(YY x.1 bK).length)
  (fun x=>x.1∈P1/\rE s b (bo x.1 []) (3+x.1.length) x.2/\x.2.heap.u m=some (.O bK 3)/\x.2.heap.u r=some (.Y1 (some m) 3 x.1 3)/\r<x.2.a)
  ([],nr.A (.Y1 (some m) 3 [] 3)) ⟨Qh,h2,k5,k6,k7⟩ (by rw[hm]) (by rw[hr];(refine Am.Ac ?_;repeat (first|exact trivial|refine⟨rfl,?_⟩))) ?_)
 clear h2 k5 k6 k7 k4 k3 k2 k1 h1 h0 hr hm;rintro⟨p,st⟩ ⟨hp,h0,hm,u6,u7⟩;dsimp only at hp h0 hm u6 u7|-;refine CE.seq (CE.next U U U U U U u6 hm (fun hL=>?_) fun e he=>?_)
 .refine Lw U<|CE.of<|Sq<|Tf U<|Sx<|Ax U ?_;have hp6:=done1 hp hL;have ZV:p.length=3:=by
   simp only[P6,Qk,List.not_mem_nil,or_false]at hp6;rcases hp6 with rfl|rfl|rfl|rfl|rfl|rfl<;>rfl
  clear hp hL hm u6;rw[ZV]at h0;refine CE.at (s':=st) (l':=[(1,.H_ b)]) U (Ac (by trivial))<|CE.seq (CE.seq (CE.of ?_));refine Sr<|kf U (CD.mono (sums_run h0.B) ?_);rintro v nr ⟨rfl,k1,k2,k3,k4⟩;have h1:=h0.step k1 k2
  skip
  refine Lo (E8 U Oc U k4) U<|Ld ?_;obtain⟨m,hm⟩:∃m,m=st.a:=⟨_,rfl⟩
  obtain⟨r,hr⟩:∃r,r=nr.a:=⟨_,rfl⟩
  have C8:=h0.lt;have h2:rE s b (bo p []) 6 (nr.A (.Y1 (some m) 2 [] 2)):=h1.step YS.u (Cu.u h1.B);have hbm:b<m:=by rw[hm];exact C8
  have hrm:r=m+1:=by rw[hr,hm];exact k3
  have k5:(nr.A (.Y1 (some m) 2 [] 2)).heap.u m=some (.O ez 2):=(Au (by omega)).trans (by rw[hm];exact k4);have k6:(nr.A (.Y1 (some m) 2 [] 2)).heap.u r=some (.Y1 (some m) 2 [] 2):=by rw[hr];exact A1
  have k7:r<(nr.A (.Y1 (some m) 2 [] 2)).a:=by rw[hr];exact Nat.lt_succ_self _
  refine CE.block (CE.tZ (fun x:List Nat×St=>([(23,.Z r 0),(1,.H_ b)],x.2)) (fun x=>(YY x.1 ez).length)
   (fun x=>x.1∈P2/\rE s b (bo p x.1) (6+x.1.length) x.2/\x.2.heap.u m=some (.O ez 2)/\x.2.heap.u r=some (.Y1 (some m) 2 x.1 2)/\r<x.2.a)
   ([],nr.A (.Y1 (some m) 2 [] 2)) ⟨Qh,h2,k5,k6,k7⟩ (by rw[hm]) (by rw[hr];(refine Am.Ac ?_;repeat (first|exact trivial|refine⟨rfl,?_⟩))) ?_)
  clear h2 k5 k6 k7 k4 k3 k2 k1 h1 h0 hr hm C8 u7;rintro⟨q,st⟩ ⟨hq,h0,hm,u6,u7⟩;dsimp only at hq h0 hm u6 u7|-;refine CE.seq (CE.next U U U U U U u6 hm (fun hL=>?_) fun e he=>?_)
  .refine Lw U<|CE.of<|Sq<|Tf U<|Sx<|Ax U ?_;have np:=done2 hq hL;have hql:q.length=2:=by
    simp only[Q2,Qk,List.not_mem_nil,or_false]at np;rcases np with rfl|rfl<;>rfl
   rw[hql]at h0;refine CE.of<|Ew U ?_;exact Se ⟨.inl U,U,Ns h0.d,h0.d,h0.f,b,bo p q,8,Aa U U,h0.e,h0.lt,h0.a,U,p,hp6,q,np,U⟩
  .obtain⟨k,rfl,hpk,bG,kG,hless⟩:=step2 hp6 hq he;obtain⟨jj,cD⟩:∃jj,jj=st.B r (some (.Y1 (some m) 2 (q++[k]) 2)):=⟨_,rfl⟩
   have dt:rE s b (bo p q) (6+q.length) jj:=by rw[cD];exact h0.u (by omega) (by omega)
   have e1:jj.heap.u r=some (.Y1 (some m) 2 (q++[k]) 2):=by rw[cD];exact AF.trans (if_pos rfl)
   have e2:jj.heap.u m=some (.O ez 2):=by rw[cD];exact(AF.trans (if_neg (by omega))).trans hm
   have hrn6:r<jj.a:=by rw[cD];exact u7
   have mc:=Ts e1 e2 kG;have hset:=Fp dt.a (kd:=kZ) (k:= .int .i64 (sS k).2) (v:=oh (sS k).1 3 3 4) rfl bG;refine Lw U<|CE.at (s':=jj) (l':=[(25,.bool true),(23,.Z r 0),(1,.H_ b)]) cD.symm (Ac (by trivial)) ?_;clear cD hm u6 u7;refine CE.of<|Sq<|Tt U<|Sk<|Sb<|Es<|Lo (HX U U mc) U<|Lw U<|Sr<|Lv 4 U<|Ln (AT (.inl U) QG U2 U U U hset) U<|Ld ?_;refine⟨(q++[k],jj.B b (some (.O (bo p (q++[k])) (6+q.length+1)))),⟨hpk,?_,(AF.trans (if_neg (by omega))).trans e2,(AF.trans (if_neg (by omega))).trans e1,hrn6⟩,hless,U,by rw[outE_s,ZV],Ac (by trivial)⟩;show rE s b (bo p (q++[k])) (6+(q++[k]).length) _;rw[Qm];exact dt.A
 .obtain⟨k,rfl,hpk,bG,kG,hless⟩:=step1 hp he;obtain⟨jj,cD⟩:∃jj,jj=st.B r (some (.Y1 (some m) 3 (p++[k]) 3)):=⟨_,rfl⟩
  have dt:rE s b (bo p []) (3+p.length) jj:=by rw[cD];exact h0.u (by omega) (by omega)
  have e1:jj.heap.u r=some (.Y1 (some m) 3 (p++[k]) 3):=by rw[cD];exact AF.trans (if_pos rfl)
  have e2:jj.heap.u m=some (.O bK 3):=by rw[cD];exact(AF.trans (if_neg (by omega))).trans hm
  have hrn6:r<jj.a:=by rw[cD];exact u7
  have mc:=Ts e1 e2 kG;have hset:=Fp dt.a (kd:=kZ) (k:= .int .i64 (tS k).2) (v:=oh (tS k).1 2 3 3) rfl bG;refine Lw U<|CE.at (s':=jj) (l':=[(14,.bool true),(12,.Z r 0),(1,.H_ b)]) cD.symm (Ac (by trivial)) ?_;clear cD hm u6 u7;refine CE.of<|Sq<|Tt U<|Sk<|Sb<|Es<|Lo (HX U U mc) U<|Lw U<|Sr<|Lv 4 U<|Ln (AT (.inl U) QG U2 U U U hset) U<|Ld ?_;refine⟨(p++[k],jj.B b (some (.O (bo (p++[k]) []) (3+p.length+1)))),⟨hpk,?_,(AF.trans (if_neg (by omega))).trans e2,(AF.trans (if_neg (by omega))).trans e1,hrn6⟩,hless,U,by rw[outE_t],Ac (by trivial)⟩;show rE s b (bo (p++[k]) []) (3+(p++[k]).length) _;rw[Qm];exact dt.A
end Go.Proofs.YtfhimfcbphepeaaGreatDoor.Ty
