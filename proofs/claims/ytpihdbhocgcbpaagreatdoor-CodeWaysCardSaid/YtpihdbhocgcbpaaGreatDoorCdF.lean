/- Code: ways: terms, rules; code.Way. -/
import Derived.Test.YtpihdbhocgcbpaaGreatDoorCdA
import Derived.Test.YtpihdbhocgcbpaaGreatDoorCdE
set_option linter.unusedSectionVars false
set_option linter.unusedVariables false
set_option linter.unusedSimpArgs false
open Go Am
namespace Go.Proofs.YtpihdbhocgcbpaaGreatDoor.Wy
structure iy (s:St) (wb:Nat) (c:Cj) (at_:Nat) (v:AV) (Cc:List Int) (mb:Nat) (left:Int) (nm:List Nat) (l:List C8) (la:List AV):Prop where
 a:YQ s wb c at_ v Cc mb left
 d:YF s 161 c9 v l la
 b:aN s mb nm
variable {R RP:AV->St->Prop} {d left:Int} {la:List AV} {ks:List Cp} {nm nmI:List Nat} {ts:List Zz} {at_ b j k m mb wb:Nat} {own:Nat->Prop} {e:TypeId} {t:Zz}
theorem iy.u {s s':St} {c:Cj} {v:AV} {Cc:List Int} {l:List C8} (h:iy s wb c at_ v Cc mb left nm l la) (hn:s.a<=s'.a) (hh:∀d,d<s.a->s'.b.g d=s.b.g d):iy s' wb c at_ v Cc mb left nm l la:=
 ⟨h.a.CQ hn (hh wb h.a.2),h.d.g hn fun d hd _=>hh d hd,⟨(hh mb h.b.2).trans h.b.1,Nat.lt_of_lt_of_le h.b.2 hn⟩⟩
theorem iy.g {s:St} {c:Cj} {v:AV} {Cc:List Int} {l:List C8} (h:iy s wb c at_ v Cc mb left nm l la):iy s.u wb c at_ v Cc mb left nm l la:=⟨h.a,⟨h.d.a,h.d.b,h.d.args⟩,h.b⟩
theorem FC {s s':St} {c:Cj} {v:AV} {Cc:List Int} {l:List C8} (h:iy s wb c at_ v Cc mb left nm l la) (hc:CL s s' (fun d=>d=wb\/d=mb)):YF s' 161 c9 v l la:=
 h.d.g hc.d fun d hd hx=>hc.b d hd fun e=>by
  rcases e with rfl|rfl
  .rcases hx with hx|⟨cs,hx⟩
   .exact Fp h.d.b h.a.1 (by decide) hx
   .rw[h.a.1]at hx;simp at hx
  .rcases hx with hx|⟨cs,hx⟩
   .rcases h.d.b with⟨rfl,_⟩|⟨b,rfl,_,hg,_⟩
    .cases hx
    .have e:b=d:=Qb hx;subst e;rw[h.b.1]at hg;cases hg
   .rw[h.b.1]at hx;cases hx
theorem iy.B {s:St} {c:Cj} {v:AV} {Cc:List Int} {l:List C8} (h:iy s wb c at_ v Cc mb left nm l la):iy (s.B s.b) wb c at_ v Cc mb left nm l la:=⟨h.a,⟨h.d.a,h.d.b,h.d.args⟩,h.b⟩
theorem IA {s:St} {n:Nat} {v:AV} {cs:List AV} (h:a_ s e k v cs n):L' v v=true:=by
 rcases h with⟨rfl,_,_⟩|⟨b,rfl,_⟩
 .rfl
 .exact KA
theorem EU {s:St} {n:Nat} {v:AV} {cs:List AV} (h:a_ s e k v cs n) (hm:s.a<=m:=by exact Qj _):CD m 40 v=true:=by
 rcases h with⟨rfl,_,_⟩|⟨b,rfl,hb,_⟩
 .rfl
 .exact Qd (show b+1<=m by omega)
theorem Gv {S s2:St} (c1:CL (S.B S.b) s2 own) (l1:Ch (S.B S.b) s2) (hb:S.c<=S.a):S.a<=s2.a/\(∀b∈s2.d,b<S.a)/\CL S (S.A s2) own/\Ch S (S.A s2)/\(∀c,c<s2.a->(S.A s2).b.g c=s2.b.g c):=
 have hn:S.a<=s2.a:=c1.d
 ⟨hn,fun b hb=>by
  rcases c1.e b hb with h|⟨h,_⟩
  .cases h
  .exact h,c1.G,Ch.G hn l1 hb,fun c hc=>Fc hn l1 U c hc⟩
attribute [local irreducible] aC
theorem I3:∀ {ts:List Zz} {t:Zz},t∈ts->We t<=WD ts
 |u::ts,t,h=>by
  rw[WD];rcases Qk.1 h with rfl|h
  .exact Nat.le_add_right _ _
  .exact Nat.le_trans (I3 h) (Nat.le_add_left _ _)
theorem yZ:∀ {l:List Int} {i:Nat} (h:i<l.length),(l.flatMap CN)[i]?=some (.int .i64 l[i])
 |a::l,0,_=>rfl
 |a::l,i+1,h=>by
  rw[List.flatMap_cons];exact yZ (l:=l) (Nat.lt_of_succ_lt_succ h)
theorem za {i:Nat} {l lf:Int} (h:eh (ts.take i) l d nm=some (ks,lf,nmI)) (hi:i<ts.length) (e:nK ts[i] lf d nmI=none):eh ts l d nm=none:=by
 have h1:eh (ts.take i++[ts[i]]) l d nm=none:=by grind [N3]
 have h2:=Uf (b:=ts.drop (i+1)) h1;rwa[List.append_assoc,List.singleton_append,<-List.drop_eq_getElem_cons hi,List.take_append_drop]at h2
theorem iy.z {s s':St} {c:Cj} {v:AV} {Cc:List Int} {l:List C8} (h:iy s wb c at_ v Cc mb left nm l la) (hn:s.a<=s'.a) (hh:∀d,d<s.a->(∀cs pt,s.b.g d≠some (.J cs 39 pt))->s'.b.g d=s.b.g d):iy s' wb c at_ v Cc mb left nm l la:=
 ⟨h.a.CQ hn (hh wb h.a.2 fun cs pt e=>by rw[h.a.1]at e;simp at e),h.d.g hn fun d hd hx=>hh d hd fun cs pt e=>by
  rcases hx with hx|⟨Yg,hx⟩
  .exact Fp h.d.b e (by decide) hx
  .rw[hx]at e;simp at e,⟨(hh mb h.b.2 fun cs pt e=>by rw[h.b.1]at e;cases e).trans h.b.1,Nat.lt_of_lt_of_le h.b.2 hn⟩⟩
theorem Ve {f:AV->List Nat->Option (AV×List Nat)}:∀ {L:List AV},(∀v∈L,∀ks,f v ks=some (v,ks))->∀ks,C9.many f L ks=some (L,ks)
 | [],_,_=>rfl
 |v::L,h,ks=>by
  show((f v ks).bind _)=_;rw[h v (Qh ..)];show((C9.many f L ks).bind _)=_;rw[Ve fun u hu=>h u (Qg _ hu)];rfl
theorem Ba (l:List Cp):CI l= .Ca\/∃cs n,CI l= .Ck cs n 3 true:=by
 cases l with
 |nil=>exact .inl rfl
 |cons a l=>exact .inr ⟨_,_,rfl⟩
theorem QF {l:List Cp} {v:AV} (h:v∈l.flatMap Cm):(∃n,v= .int .i64 n)\/∃ks,v=CI ks:=by grind [A4]
theorem Vb {s:St} {n:Nat} (l:List Cp) (ks:List Nat):C9.many (C9 s m (n+1)) (l.flatMap Cm) ks=some (l.flatMap Cm,ks):=Ve (fun v hv ks=>by
 rcases QF hv with⟨n,rfl⟩|⟨kl,rfl⟩
 .rfl
 .rcases Ba kl with e|⟨_,_,e⟩<;>rw[e]<;>rfl) ks
theorem KJ (l:List Cp):(l.flatMap Cm).all (Cr 40)=true:=List.all_eq_true.2 fun v hv=>by
 rcases QF hv with⟨n,rfl⟩|⟨kl,rfl⟩
 .rfl
 .rcases Ba kl with e|⟨_,_,e⟩<;>rw[e]<;>rfl
theorem HL {s:St} {v:AV} {l:List Cp} (h:a_ s 39 3 v (l.flatMap Cm) l.length) (hm:∀b,CB b v=true->m<=b):∃bs:List Nat,(∀b∈bs,CB b v=true)/\∀ks,C9 s 0 (j+2) v ks=some (CI l,bs++ks):=by
 cases l with
 |nil=>
  obtain⟨rfl,_⟩:=h.zero;exact⟨[],(fun b hb=>by cases hb),fun ks=>rfl⟩
 |cons a l=>
  rcases h with⟨_,h0,_⟩|⟨b,rfl,hb,hg,hl,_⟩
  .cases h0
  .refine⟨[b],fun c hc=>by rw[Qp.1 hc];exact Nat.beq_refl b,fun ks=>?_⟩;rw[GZ (Qo b) hg hl (Vb _ ks),KJ];rfl
theorem rdT_bad {l:Int} (h:¬(0<=l-1/\0<d)):nK t l d nm=none:=by
 cases t with
 |O r=>rw[nK,if_neg h]
 |J o n ks=>rw[nK,if_neg h]
theorem zb {c:Cj} {at_:Nat} {Cc:List Int} {l:List C8} (WO:Yf l):∀(n:Nat) (t:Zz),We t<=n->∀ {s:St} {wb mb r:Nat} {v:AV} {left d:Int} {nm:List Nat} {la:List AV} (_:Is l t r) (_:iy s wb c at_ v Cc mb left nm l la) (_:nm.length<=20) (_: -1<=left/\left<=1000) (_:0<=d/\d<=1000) {R RP:AV->St->Prop}
 (_:∀k l2 mU,nK t left d nm=some (k,l2,mU)->∀s',CL s s' (fun x=>x=wb\/x=mb)->YQ s' wb c at_ v Cc mb l2->aN s' mb mU->(s.c<=s.a->Ch s s')->R (.O (Cm k)) s')
 (_:nK t left d nm=none->∀s',CL s s' (fun x=>x=wb\/x=mb)->(s.c<=s.a->Ch s s')->RP (bN 3) s'),
 VX (EK W1) 123 [.J wb 0,.int .i64 (r:Nat),.int .i64 d] s R RP:=by
 intro n;induction n with
 |zero=>intro t ht;cases t<;>rw[We]at ht<;>omega
 |succ n ih=>
  intro t ht s wb mb r v left d nm la hI hS lU tu hd R RP hR hP;refine Ar U ?_;obtain⟨sA,XP⟩:∃x,x=s.u.g (.J [.int .i64 0,.int .i64 0,.Ca] 39 false):=⟨_,rfl⟩
  have nA:sA.a=s.a+1:=by rw[XP];rfl
  have bA:sA.c=s.a:=by rw[XP];rfl
  have oA:∀d,d<s.a->sA.b.g d=s.b.g d:=fun d hd=>by rw[XP];exact Ap hd
  have gA:sA.b.g s.a=some (.J [.int .i64 0,.int .i64 0,.Ca] 39 false):=by rw[XP];exact Ax
  have hSA:=hS.u (by omega) oA;have wA:=hSA.a.1;unfold cT at wA;refine Es<|Lo (kz U) U<|Ld ?_;show Cu _ _ _ _ (s.u.g (.J [.int .i64 0,.int .i64 0,.Ca] 39 false)) _;rw[<-XP];refine Es<|Lv 3 U<|Lo (kl U wA U) U<|Lq (ks U (by omega)) U<|Lv 2 U<|Ln (kw U wA U) U<|Ld ?_;refine Az fun sB YP=>?_;replace YP:sB=sA.z wb (some (.J (cT c at_ v Cc mb (left-1)) 87 false)):=YP;have cA:CL s.u sA (fun x=>x=wb\/x=mb):=by rw[XP];exact CL.z
  have cB:CL s.u sB (fun x=>x=wb\/x=mb):=by rw[YP];exact cA.g CL.B (fun _ h=>h) (fun d h=> .inl (.inl h)) (Qj _)
  have lB:Ch s.u sB:=by rw[YP,XP];exact(Ch.z (Qj _)).g Ch.B
  have mB:wb∈sB.d:=by rw[YP];exact AL (by rw[bA];exact hS.a.2)
  have wm:mb≠wb:=fun e=>by have:=hS.b.1;rw[e,hS.a.1]at this;cases this
  have oB:∀d,d≠wb->sB.b.g d=sA.b.g d:=fun d hd=>by rw[YP];exact Ah.trans (if_neg hd)
  have nB:sB.a=s.a+1:=by rw[YP];exact nA
  have hSB:iy sB wb c at_ v Cc mb (left-1) nm l la:=⟨⟨by rw[YP];exact Ah.trans (if_pos rfl),by rw[nB];have:=hS.a.2;omega⟩,FC hS.g cB,⟨(oB mb wm).trans hSA.b.1,by have:=hS.b.2;omega⟩⟩
  have gB:=(oB s.a (by have:=hS.a.2;omega)).trans gA;clear YP XP oA gA cA hSA wA;have wB:=hSB.a.1;unfold cT at wB;have ql:r<l.length:=by
   cases t with
   |O k=>rw[Is]at hI;exact hI.2.1
   |J o n ks=>rw[Is]at hI;exact hI.1
  obtain⟨b,hve,eN,vg,ru⟩:=hSB.d.b.at ql;have hrL:r<(l.zip la).length:=by rw[List.length_zip,hSB.d.a,Nat.min_self];exact ql
  have vK:r<la.length:=by rw[hSB.d.a];exact ql
  have e0:(l.zip la)[r]=(l[r],la[r]):=List.getElem_zip;have ldr:Wq (EK W1) 161 sB (.J b (0+r*(5+1)))=some (.O [.bool l[r].c,.bool l[r].a,.bool l[r].b,.int .i64 l[r].op,.int .i64 l[r].n,la[r]]):=by
   rw[Bl xR G8 vg (by rw[AR (fun _=>rfl)];omega),show 0+r*(5+1)=r*6 by omega,FZ (fun _=>rfl) hrL,e0];rfl
  have hP2:¬(0<=left-1/\0<d)->RP (bN 3) (s.G sB):=fun h=>hP (rdT_bad h) _ (CL.u cB) fun hb=>Ch.u lB hb;focus
   refine Es<|Lv 3 U<|Lo (kl U wB U) U<|Lv 2 U ?_;refine Bb U (fun g1=>?_) (fun g1=>?_);have h1:=dT g1;refine Lv 3 U ?_;refine By (k:=26) U (fun g2=>?_) (fun g2=>?_);have h2:=dT g2;refine Lo (kc U (GY)) U<|Ld ?_;rotate_left;have h2:=dF g2;refine An U U (by kernel_rfl) U U U U (Fo DK ?_);rotate_left;have h1:=dF g1;refine Lv 3 U ?_;refine An U U (by kernel_rfl) U U U U (Fo DK ?_);rotate_left
  rotate_left
  .exact⟨U,hP2 (by omega)⟩
  .exact⟨U,hP2 (by omega)⟩
  refine Cu.sub (l':=[(6,.J s.a 0),(2,.int .i64 d),(1,.int .i64 (r:Nat)),(0,.J wb 0)]) ?_ (Ab (by repeat' constructor));obtain⟨a1,a2,a3,a4,a5,a6,a7⟩:=AU (st:=sB) (z:=[.bool false,.bool false,.bool false,.int .i64 0,.int .i64 0,.Ca]) (cs:=[.bool l[r].c,.bool l[r].a,.bool l[r].b,.int .i64 l[r].op,.int .i64 l[r].n,la[r]]) (T:=161);subst hve;refine Es<|Lv 3 U<|Lo (kl U wB U) U<|qm U ?_;refine Lq (kM U (by omega)) U ?_;refine Lo (AQ U U ldr) U<|Lo (kz U) U<|Ln (kw U a1 U) U<|Ld<|Sq ?_;refine Az fun sC dG=>?_;have nC:sC.a=s.a+2:=by rw[dG];show sB.a+1=_;omega
  have oC:∀d,d<sB.a->sC.b.g d=sB.b.g d:=fun d hd=>by rw[dG];exact a4 d hd
  have gC7:sC.b.g sB.a=some (.J [.bool l[r].c,.bool l[r].a,.bool l[r].b,.int .i64 l[r].op,.int .i64 l[r].n,la[r]] 161 false):=by rw[dG];exact a2
  have gC6:=(oC s.a (by omega)).trans gB;have q9:sB.c<=sB.a:=by rw[cB.a];exact cB.d
  have cC:CL s.u sC (fun x=>x=wb\/x=mb):=by rw[dG];exact cB.g (AP (own:=fun x=>x=wb\/x=mb) q9).1 (fun _ h=>h) (fun _ h=> .inl h) (Qj _)
  have lC:Ch s.u sC:=by rw[dG];exact lB.g (AP (own:=fun _=>False) q9).2
  have mC:wb∈sC.d:=by
   have h:=mB;rw[<-a6 q9]at h;rw[dG];exact h
  have hSC:=hSB.u (by omega) oC;clear dG a1 a2 a3 a4 a5 a6 a7 oC ldr;have dC:0<=left-1/\0<d:=by omega
  cases t with
  |O k=>
   rw[Is]at hI;obtain⟨rfl,_,XB⟩:=hI;focus
    refine Es<|Lv 1 U<|Lo (kl U gC7 U) U<|Lw U ?_;refine Cb U (fun g3=>?_) (fun g3=>?_);have h3:=dT g3;refine Es<|Lv 2 U ?_;rotate_left;have h3:=dF g3;exact absurd h3 (by omega)
   have zd:sC.c<=sC.a:=by rw[cC.a];exact cC.d
   refine An U U (by kernel_rfl) U U U U (NQ hSC.a hSC.b (by omega) fun s1 c1 n1 m1 l1=>?_);have c5:=cC.g c1 (own:=fun x=>x=wb\/x=mb) (fun _ h=>h) (fun d h=> .inl (.inr h)) (Qj _);have l5:=lC.g (l1 zd);have qY:s.a≠mb:=by have:=hS.b.2;omega
   have g6:=(c1.b s.a (by omega) qY).trans gC6;have w5:=hSC.a.CQ c1.d (c1.b wb hSC.a.2 (fun e=>wm e.symm));split
   .next rj=>
    refine Lv 1 U<|Ln (kw U g6 U) U<|Ld<|Se ?_;have bS:nK (.O k) left d nm=some (.mk 1 (nm.idxOf k:Nat) [],left-1,X6 nm k):=by rw[nK,if_pos dC,if_pos rj]
    have hw:=hS.a.2;have jn:=hR _ _ _ bS (s.G (s1.z s.a (some (.J [.int .i64 1,.int .i64 (nm.idxOf k:Nat),.Ca] 39 false)))) (CL.u (c5.g CL.B (fun _ h=>h) (fun d h=> .inr (by show s.a<=d;omega)) (Qj _))) ⟨(Ah.trans (if_neg (by omega))).trans w5.1,w5.2⟩ ⟨(Ah.trans (if_neg (fun e=>qY e.symm))).trans m1.1,m1.2⟩ (fun hb=>Ch.u (l5.g Ch.B) hb);refine AC ⟨.inl U,_,rfl,[.O [.int .i64 1,.int .i64 (nm.idxOf k:Nat),.Ca]],BZ U U U (Ah.trans (if_pos U)) (Qj _) U,_,GV (ks:=[]) U ?_ U (fun b hb=>by cases hb),jn⟩;exact List.ne_nil_of_mem (AZ ((l1 zd).a wb mC))
   .next rj=>
    exact⟨rfl,hP (by rw[nK,if_pos dC,if_neg rj]) _ (CL.u c5) fun hb=>Ch.u l5 hb⟩
  |J o n' ts=>
   rw[Is]at hI;obtain⟨_,XB,rfl,rfl,hIs⟩:=hI;have zd:sC.c<=sC.a:=by rw[cC.a];exact cC.d
   obtain⟨a1,a2,a3,a4,a5,a6,a7⟩:=AU (st:=sC) (z:=[.int .i64 0,.int .i64 0,.Ca]) (cs:=[.int .i64 l[r].op,.int .i64 l[r].n,.Ca]) (T:=39);have gC7':=(a4 sB.a (by omega)).trans gC7;have Xx:=hSC.d.args r ql vK;have hlen:=Xx.1.len;have hokr:=(WO r ql).d;focus
    refine Es<|Lv 1 U<|Lo (kl U gC7 U) U<|Lw U ?_;refine Cb U (fun g3=>?_) (fun g3=>?_);have h3:=dT g3;exact absurd h3 (by omega);have h3:=dF g3;refine Sk<|Es<|Lv 1 U<|Lo (kl U gC7 U) U<|Lv 1 U<|Lo (kl U gC7 U) U<|Lv 1 U<|Lo (kz U) U<|Ln (kw U a1 U) U<|Ld<|Sq<|Es<|Lv 1 U<|Lo (kl U gC7' U) U<|Lq (kn U hlen) U<|Lw U ?_;refine Sb ?_;rotate_left
   refine Cu.sub (l':=[(50,.int .i64 ((0:Nat):Int)),(49,.int .i64 (l[r].args.length:Nat)),(48,la[r]),(8,.J sC.a 0),(6,.J s.a 0),(2,.int .i64 d),(0,.J wb 0)]) ?_ (Ab (by repeat' constructor));refine Az fun sL nN=>?_;have nL:sL.a=s.a+3:=by rw[nN];show sC.a+1=_;omega
   have oL:∀d,d<sC.a->sL.b.g d=sC.b.g d:=fun d hd=>by rw[nN];exact a4 d hd
   have gL8:sL.b.g sC.a=some (.J [.int .i64 l[r].op,.int .i64 l[r].n,.Ca] 39 false):=by rw[nN];exact a2
   have gL6:=(oL s.a (by omega)).trans gC6;have cL:CL s.u sL (fun x=>x=wb\/x=mb):=by rw[nN];exact cC.g (AP (own:=fun x=>x=wb\/x=mb) zd).1 (fun _ h=>h) (fun _ h=> .inl h) (Qj _)
   have lL:Ch s.u sL:=by rw[nN];exact lC.g (AP (own:=fun _=>False) zd).2
   have mL:wb∈sL.d:=by
    have h:=mC;rw[<-a6 zd]at h;rw[nN];exact h
   have hSL:=hSC.u (by omega) oL;have hargL:gR sL la[r] l[r].args:=(hSL.d.args r ql vK).1;have bL:sL.c=s.a:=cL.a;clear nN a1 a2 a3 a4 a5 a6 a7 gC7' oL Xx;have htl:=J7 hIs;have Y0:=Rg hIs;have fk:=hS.a.2;have zf:=hS.b.2;refine Ai (fun x:Nat×AV×St×List Cp×Int×List Nat=>([(50,.int .i64 (x.1:Nat)),(49,.int .i64 (l[r].args.length:Nat)),(48,la[r]),(8,.J sC.a 0),(6,.J s.a 0),(2,.int .i64 d),(0,.J wb 0)],x.2.2.1)) (fun x=>ts.length-x.1)
    (fun x=>x.1<=ts.length/\eh (ts.take x.1) (left-1) (d-1) nm=some (x.2.2.2.1,x.2.2.2.2.1,x.2.2.2.2.2)/\x.2.2.2.1.length=x.1/\CL sL x.2.2.1 (fun y=>y=wb\/y=mb\/y=sC.a)/\Ch sL x.2.2.1/\iy x.2.2.1 wb c at_ (.Z b 0 l.length (5+1) none) Cc mb x.2.2.2.2.1 x.2.2.2.2.2 l la/\
     x.2.2.1.b.g sC.a=some (.J [.int .i64 l[r].op,.int .i64 l[r].n,x.2.1] 39 false)/\a_ x.2.2.1 39 3 x.2.1 (x.2.2.2.1.flatMap Cm) x.1/\gR x.2.2.1 la[r] l[r].args/\∀y,CB y x.2.1=true->sL.a<=y)
    (0,.Ca,sL,[],left-1,nm) ⟨Qo _,by rw[List.take_zero,eh],rfl,CL.A,Ch.A,hSL,gL8,a_.nil _ _ _,hargL,fun y h=>by cases h⟩ rfl (Ab (by repeat' constructor)) ?_
   rintro⟨i,kv,st,ks,lf,nmI⟩ ⟨hi,bS,rH,cI,lI,nO,g8,gS,haI,oI⟩;dsimp only at hi bS rH cI lI nO g8 gS haI oI|-;have nI:=cI.d;have hnmI:nmI.length<=20/\0<=lf/\lf<=left-1:=by
    rw[Pv _ _ _ _ lU (by omega) (by omega)]at bS;split at bS
    .next hc=>
     simp only[Option.some.injEq,Prod.mk.injEq]at bS;obtain⟨_,rfl,rfl⟩:=bS;exact⟨hc.2.2,by omega,by omega⟩
    .cases bS
   have hlenI:=haI.len;have g6:=(cI.b s.a (by omega) (by omega)).trans gL6;by_cases C5:i<ts.length
   .have b7:i<l[r].args.length:=by omega
    obtain⟨hz,hIk⟩:=Y0 i C5 b7;obtain⟨ak,hak⟩:∃ak:Nat,l[r].args[i]=ak:=⟨l[r].args[i].toNat,by omega⟩
    rw[hak,Int.toNat_natCast]at hIk;have qW:(∃cs,OK (0+1) i la[r]=some (.XD (.int .i64 (ak:Nat)::cs)))\/∃b2,OK (0+1) i la[r]=some (.J b2 (i*(0+1)))/\Wq (EK W1) 3 st (.J b2 (i*(0+1)))=some (.int .i64 (ak:Nat)):=by
     rcases haI with he|he
     .left;have:=Af AD b7;rw[hak]at this;rw[he];exact⟨_,this⟩
     .right;obtain⟨b2,hve,_,iu,dE⟩:=he.at b7;refine⟨b2,dE,AA LJ D9 iu ?_⟩;rw[Nat.zero_add,Nat.mul_one,yZ b7,hak]
    focus
     refine Ew U<|Sq ?_;refine Cb U (fun g9=>?_) (fun g9=>?_);have h9:=dT g9;refine Sk<|Sq<|Sb ?_;rotate_left;have h9:=dF g9;exact absurd h9 (by omega)
    refine B0 (DG (fun _:Unit=>([(10,.int .i64 (ak:Nat)),(50,.int .i64 (i:Nat)),(49,.int .i64 (l[r].args.length:Nat)),(48,la[r]),(8,.J sC.a 0),(6,.J s.a 0),(2,.int .i64 d),(0,.J wb 0)],st)) (fun _=>True) ?_ ?_)
    .rcases qW with⟨cs,dE⟩|⟨b2,dE,gK⟩
     .refine Sr ?_;refine Lq (BK U I1 D9 U U dE) U<|Lw U ?_;exact⟨U,(),trivial,U,Ab (by repeat' constructor)⟩
     .refine Sr ?_;refine Lq (BK U I1 D9 U U dE) U<|Lo (AQ U U gK) U<|Lw U ?_;exact⟨U,(),trivial,U,Ab (by repeat' constructor)⟩
    rintro⟨⟩ _;dsimp only;have g8k:=fun(_:True)=>g8;clear g8;refine AK (by kernel_rfl)<|Nv 1 U ?_;have g8:=g8k trivial;clear g8k;refine Dl U I0 Gg U g8 U (IA gS) (EU gS) U (.inl U) U U<|Nv 3 U<|Nq (X3.sub U ey U U (by omega)) U ?_;have X2:We ts[i]<=n:=by
     have:=I3 (Ql C5);rw[We]at ht;omega
    have uH:st.c<=st.a:=by rw[cI.a,bL];omega
    refine EE (by kernel_rfl) U U U (ih ts[i] X2 (s:=st.B st.b) hIk nO.B hnmI.1 (by omega) (by omega)
     (R:=fun v s2=>∃k l2 mU,nK ts[i] lf (d-1) nmI=some (k,l2,mU)/\v= .O (Cm k)/\CL (st.B st.b) s2 (fun x=>x=wb\/x=mb)/\YQ s2 wb c at_ (.Z b 0 l.length (5+1) none) Cc mb l2/\aN s2 mb mU/\Ch (st.B st.b) s2)
     (RP:=fun v s2=>nK ts[i] lf (d-1) nmI=none/\v=bN 3/\CL (st.B st.b) s2 (fun x=>x=wb\/x=mb)/\Ch (st.B st.b) s2)
     (fun k l2 mU e s2 c1 w1 m1 l1=>⟨k,l2,mU,e,rfl,c1,w1,m1,l1 (Qj _)⟩) (fun e s2 c1 l1=>⟨e,rfl,c1,l1 (Qj _)⟩)) ?_ rfl (.inl rfl) rfl rfl ?_ ?_
    .exact J6 (by kernel_rfl)
    .rintro v s2 ⟨k,l2,mU,e,rfl,c1,w1,m1,l1⟩;obtain⟨p1,p2,p3,p4,p5⟩:=Gv c1 l1 uH;have g82:=(c1.b sC.a (show sC.a<st.a by omega) (by omega)).trans g8;refine⟨p1,p2,fun e he=>?_,fun dA cS=>?_⟩
     .rw[Qp.1 he];exact .inr (.inr ⟨_,_,_,g82,U⟩)
     have n3:(st.A s2).a=s2.a:=rfl;have hw3:=(p5 wb w1.2).trans w1.1;have tK:=(p5 mb m1.2).trans m1.1;refine Cz.named fun s3 qz=>?_;rw[<-qz]at p3 p4 n3 hw3 tK;clear qz;have hS3:iy s3 wb c at_ (.Z b 0 l.length (5+1) none) Cc mb l2 mU l la:=⟨⟨hw3,by rw[n3];exact w1.2⟩,FC nO p3,⟨tK,by rw[n3];exact m1.2⟩⟩
     have g83:=(p3.b sC.a (by omega) (by omega)).trans g8;have b3:s3.c<=s3.a:=by rw[p3.a];omega
     have rQ:a_ s3 39 3 kv (ks.flatMap Cm) i:=gS.CQ p3.d fun y hy=>p3.b y (gS.own hy) (by have:=oI y hy;omega);have ek:=A4 k;rw[ek];refine AI U nr Ks qe U U U (.inl U) U U ?_;refine ED (new:=[.int .i64 k.op,.int .i64 k.n,CI k.g]) rQ b3 U (by decide) (A3 (by omega) (by decide)) (A3 (by omega) (by decide)) U U U U nr Ks VA qe (by kernel_rfl) (by kernel_rfl) U U (by kernel_rfl) (by rw[List.all_cons,cS.all U (by kernel_rfl)];kernel_rfl) (.inl U) U U fun v2 s4 nl4 g4 o4 c4 l4 Y8=>?_;refine Nv 1 U ?_;have fU:v2.g=[v2]/\v2.u=false:=by rcases g4 with⟨rfl,_⟩|⟨_,rfl,_⟩<;>exact⟨rfl,rfl⟩
     have Xo:¬CB sC.a kv=true:=fun h=>by have:=oI _ h;omega
     have sV:CB sC.a kv=false:=by simpa using Xo
     have n4:=c4.d;have g84:=(c4.b sC.a (by omega) Xo).trans g83;refine B8 (by omega) U Gg U U g84 (by rw[fU.1];rfl) fU.2 (by rw[fU.1];rfl) (Y8 sC.a (by omega) sV _ (AH (by rw[List.all_cons,cS.all U (by kernel_rfl)];kernel_rfl))) (by kernel_rfl) (.inl U) U U ?_;refine Cz.done<|Sr ?_;refine Lq (ka (b:=1) U (by omega)) U ?_;refine Lw U ?_;have hS5:iy (bj s4 sC.a (some (.J [.int .i64 l[r].op,.int .i64 l[r].n,v2] 39 false))) wb c at_ (.Z b 0 l.length (5+1) none) Cc mb l2 mU l la:=hS3.z n4 fun y hy hT=>(VY.trans (if_neg fun e=>by subst e;exact hT _ _ g83)).trans (c4.b y hy fun ho=>by
      rcases rQ with⟨rfl,_⟩|⟨b',rfl,_,kB,_⟩
      .cases ho
      .obtain rfl:b'=y:=Qb ho;exact hT _ _ kB)
     have kg:sL.c<=sL.a:=by rw[bL];omega
     refine⟨(i+1,v2,bj s4 sC.a (some (.J [.int .i64 l[r].op,.int .i64 l[r].n,v2] 39 false)),ks++[k],l2,mU),⟨C5,?_,by rw[Qm,rH];rfl,?_,((lI.g p4).g l4).g Fx,hS5,VY.trans (if_pos U),?_,(hS5.d.args r ql vK).1,fun y hy=>by have:=o4 y hy;omega⟩,by show ts.length-(i+1)<ts.length-i;omega,rfl,rfl,Ab (by repeat' constructor)⟩
     .show eh (ts.take (i+1)) _ _ _=_;rw[List.take_succ_eq_append_getElem C5,N3,bS];dsimp only;rw[e]
     .exact((cI.g p3 (own:=fun y=>y=wb\/y=mb\/y=sC.a) (fun _ h=>h) (fun y h=> .inl (h.imp id .inl)) kg).g c4 (fun _ h=>h) (fun y h=> .inr (oI y h)) kg).g De (fun _ h=>h) (fun y h=> .inl (.inr (.inr h))) kg
     .show a_ (bj s4 _ _) 39 3 v2 ((ks++[k]).flatMap Cm) (i+1);rw[List.flatMap_append,List.flatMap_cons,List.flatMap_nil,List.append_nil,ek];exact g4.CQ (Qj _) fun y hy=>VY.trans (if_neg fun e=>by have:=o4 y hy;omega)
    .rintro v s2 ⟨e,rfl,c1,l1⟩;obtain⟨p1,p2,p3,p4,p5⟩:=Gv c1 l1 uH;have g82:=(c1.b sC.a (show sC.a<st.a by omega) (by omega)).trans g8;refine⟨p1,p2,fun e he=>?_,⟨rfl,hP ?_ _ (CL.u ?_) fun hb=>Ch.u ((lL.g lI).g p4) hb⟩,?_⟩
     .rw[Qp.1 he];exact .inr (.inr ⟨_,_,_,g82,U⟩)
     .rw[nK,if_pos dC,za bS C5 e]
     .exact(cL.g cI (fun _ h=>h) (fun y h=>by
       rcases h with h|h|h
       .exact .inl (.inl h)
       .exact .inl (.inr h)
       .exact .inr (by show s.a<=y;omega)) (Qj _)).g p3 (fun _ h=>h) (fun _ h=> .inl h) (Qj _)
     .repeat (first|exact aC.done|refine aC.desc (by decide+kernel) rfl rfl ?_|refine aC.q (by kernel_rfl) (kq rfl) (.inl rfl) rfl rfl ?_)
   .obtain rfl:i=ts.length:=by omega
    rw[List.take_length]at bS;focus
     refine Ew U<|Sq ?_;refine Cd U (fun h9=>?_) (fun h9=>?_);exact absurd h9 (by omega);refine Sx<|A0 U<|Es<|Lo (kL U g8 U) U<|Ln (kw U g6 U) U<|Ld ?_;rotate_left
    refine Az fun sF ij=>?_;have hrd2:nK (.J l[r].op l[r].n ts) left d nm=some (.mk l[r].op l[r].n ks,lf,nmI):=by
     rw[nK,if_pos dC,bS]
    have gF:sF.b.g s.a=some (.J [.int .i64 l[r].op,.int .i64 l[r].n,kv] 39 false):=by rw[ij];exact Ah.trans (if_pos rfl)
    have oF:∀y,y≠s.a->sF.b.g y=st.b.g y:=fun y hy=>by rw[ij];exact Ah.trans (if_neg hy)
    have nF:sF.a=st.a:=by rw[ij];rfl
    have cF:CL s.u sF (fun x=>x=wb\/x=mb):=by
     rw[ij];exact(cL.g cI (fun _ h=>h) (fun y h=>by
      rcases h with h|h|h
      .exact .inl (.inl h)
      .exact .inl (.inr h)
      .exact .inr (by show s.a<=y;omega)) (Qj _)).g CL.B (fun _ h=>h) (fun y h=> .inr (by show s.a<=y;omega)) (Qj _)
    have lF:Ch s.u sF:=by rw[ij];exact(lL.g lI).g Ch.B
    have mF:wb∈sF.d:=by rw[ij];exact AZ (lI.a wb mL)
    clear ij;rw[<-rH]at gS;have grF:a_ sF 39 3 kv (ks.flatMap Cm) ks.length:=gS.CQ (Nat.le_of_eq nF.symm) fun y hy=>oF y (by have:=oI y hy;omega);obtain⟨bs,vD,hz⟩:=HL (m:=0) (j:=37) grF fun _ _=>Qo _;have mH:∀y∈bs,s.a+3<=y:=fun y hy=>by have:=oI y (vD y hy);omega
    have rK:C9 sF 0 40 (.O [.int .i64 l[r].op,.int .i64 l[r].n,kv]) []=some (.O [.int .i64 l[r].op,.int .i64 l[r].n,CI ks],bs):=by
     show((C9.many (C9 sF 0 39) [.int .i64 l[r].op,.int .i64 l[r].n,kv] []).bind _)=_;have h1:C9.many (C9 sF 0 39) [.int .i64 l[r].op,.int .i64 l[r].n,kv] []=some ([.int .i64 l[r].op,.int .i64 l[r].n,CI ks],bs):=by
      simp only[C9.many,show∀n q,C9 sF 0 39 (.int .i64 n) q=some (.int .i64 n,q)from fun _ _=>rfl,hz,Qe,List.append_nil]
     rw[h1];rfl
    have jn:=hR _ _ _ hrd2 (s.G (q_ sF bs)) (CL.u (CL.I cF (fun y hy=>by show s.a<=y;have:=mH y hy;omega) (Qj _))) ⟨(Mx fun hm=>by have:=mH _ hm;omega).trans ((oF wb (by omega)).trans nO.a.1),by show wb<(q_ sF bs).a;rw[GW,nF];exact nO.a.2⟩ ⟨(Mx fun hm=>by have:=mH _ hm;omega).trans ((oF mb (by omega)).trans nO.b.1),by show mb<(q_ sF bs).a;rw[GW,nF];exact nO.b.2⟩ fun hb=>Ch.u lF.I hb;rw[AN]at jn;refine Se ?_;exact AC ⟨.inl U,_,rfl,[.O [.int .i64 l[r].op,.int .i64 l[r].n,kv]],BZ U U U gF (Qj _) U,_,GV U (List.ne_nil_of_mem mF) rK (fun y hy=>by rw[cF.a];show s.a<=y;have:=mH y hy;omega),jn⟩
mutual
theorem J8 {l:List C8} (WO:Yf l):∀(t:Zz) (r:Nat) (nm:List Nat),Is l t r->WV (CC t nm).1
 | .O k,r,nm,_=>by rw[CC];exact .mk (Qo _) fun t h=>by cases h
 | .J o n ts,r,nm,h=>by
  rw[Is]at h;obtain⟨hr,_,_,_,h⟩:=h;rw[CC];refine .mk ?_ (Rf WO ts _ nm h);rw[BU,J7 h];exact(WO r hr).d
theorem Rf {l:List C8} (WO:Yf l):∀(ts:List Zz) (zl:List Int) (nm:List Nat),oS l ts zl->∀u∈(Cf ts nm).1,WV u
 | [],_,nm,_,u,hu=>by rw[Cf]at hu;cases hu
 |t::ts,zl,nm,h,u,hu=>by
  rw[oS]at h;obtain⟨k,zl',_,h1,h2⟩:=h;rw[Cf]at hu;rcases Qk.1 hu with rfl|hu
  .exact J8 WO t k nm h1
  .exact Rf WO ts zl' _ h2 u hu
end
structure SigOk (c:Cj):Prop where
 a:c.b.length<=4000
 Cy:c.c.length<=4000
 n1:∀p∈c.b,p.1.length<=4000
 n2:∀p∈c.c,p.1.length<=4000
 b:Zy c.b c.c=true
theorem Nb {s:St} {c:Cj} {r:Nat} {v:AV} {Cc:List Int} {l:List C8} (WO:Yf l) (vd:SigOk c) (hI:Is l t r) (hS:iy s wb c at_ v Cc mb left nm l la) (lU:nm.length<=20) 
 (hR:fF c.b c.c t nm->∀s' lf,CL s s' (fun x=>x=wb\/x=mb)->YQ s' wb c at_ v Cc mb lf->aN s' mb (CC t nm).2->(s.c<=s.a->Ch s s')->(wb<s.c->wb∈s'.d)->R (.O (Cm (CC t nm).1)) s')
 (hP:¬fF c.b c.c t nm->∀s',CL s s' (fun x=>x=wb\/x=mb)->(s.c<=s.a->Ch s s')->RP (bN 3) s'):
 VX (EK W1) 86 [.J wb 0,.int .i64 (r:Nat)] s R RP:=by
 refine Ar U ?_;obtain⟨sA,XP⟩:∃x,x=s.u.g (.J [.int .i64 0,.int .i64 0,.Ca] 39 false):=⟨_,rfl⟩
 have nA:sA.a=s.a+1:=by rw[XP];rfl
 have bA:sA.c=s.a:=by rw[XP];rfl
 have oA:∀d,d<s.a->sA.b.g d=s.b.g d:=fun d hd=>by rw[XP];exact Ap hd
 have gA:sA.b.g s.a=some (.J [.int .i64 0,.int .i64 0,.Ca] 39 false):=by rw[XP];exact Ax
 have hSA:=hS.u (by omega) oA;have wA:=hSA.a.1;unfold cT at wA;refine Es<|Lo (kz U) U<|Ld ?_;show Cu _ _ _ _ (s.u.g (.J [.int .i64 0,.int .i64 0,.Ca] 39 false)) _;rw[<-XP];refine Es<|Lv 3 U<|Ln (kw U wA U) U<|Ld ?_;refine Az fun sB YP=>?_;replace YP:sB=sA.z wb (some (.J (cT c at_ v Cc mb 40) 87 false)):=YP;have cA:CL s.u sA (fun x=>x=wb\/x=mb):=by rw[XP];exact CL.z
 have cB:CL s.u sB (fun x=>x=wb\/x=mb):=by rw[YP];exact cA.g CL.B (fun _ h=>h) (fun d h=> .inl (.inl h)) (Qj _)
 have lB:Ch s.u sB:=by rw[YP,XP];exact(Ch.z (Qj _)).g Ch.B
 have mB:wb∈sB.d:=by rw[YP];exact AL (by rw[bA];exact hS.a.2)
 have wm:mb≠wb:=fun e=>by have:=hS.b.1;rw[e,hS.a.1]at this;cases this
 have oB:∀d,d≠wb->sB.b.g d=sA.b.g d:=fun d hd=>by rw[YP];exact Ah.trans (if_neg hd)
 have nB:sB.a=s.a+1:=by rw[YP];exact nA
 have fk:=hS.a.2;have zf:=hS.b.2;have hSB:iy sB wb c at_ v Cc mb 40 nm l la:=⟨⟨by rw[YP];exact Ah.trans (if_pos rfl),by rw[nB];omega⟩,FC hS.g cB,⟨(oB mb wm).trans hSA.b.1,by omega⟩⟩
 have gB:=(oB s.a (by omega)).trans gA;have q9:sB.c<=sB.a:=by rw[cB.a];exact cB.d
 clear YP XP oA gA cA hSA wA oB;refine Es<|Lv 2 U ?_;refine An U U (by kernel_rfl) U U U U (zb WO _ t (Qj _) hI hSB lU (by omega) (by omega) (fun k l2 mU e s1 c1 w1 m1 l1=>?_) (fun e s1 c1 l1=>?_));rotate_left
 .have mP:¬fF c.b c.c t nm:=fun hg=>by
   obtain⟨l3,h3⟩:=Ua lU hg;rw[e]at h3;cases h3
  exact⟨rfl,hP mP _ (CL.u (cB.g c1 (fun _ h=>h) (fun _ h=> .inl h) (Qj _))) fun hb=>Ch.u (lB.g (l1 q9)) hb⟩
 obtain⟨rfl,rfl,rj,_⟩:=TZ lU e;have hslim:=J8 WO t r nm hI;have c5:=cB.g c1 (fun _ h=>h) (fun _ h=> .inl h) (Qj _);have l5:=lB.g (l1 q9);have m5:=(l1 q9).a wb mB;have g6:=(c1.b s.a (by omega) (by omega)).trans gB;have sk:=c1.d;have gg:=JE vd.a vd.Cy hslim vd.n1 vd.n2 vd.b;have ek:=A4 (CC t nm).1;rw[ek]at gg|-;unfold Wn at gg;generalize hk:(CC t nm).1=k at*;obtain⟨a1,a2,a3,a4,a5,a6,a7⟩:=AU (st:=s1) (z:=[.int .i64 0,.int .i64 0,.Ca]) (cs:=[.int .i64 k.op,.int .i64 k.n,CI k.g]) (T:=39);have dt:s1.c<=s1.a:=by rw[c5.a];exact c5.d
 have w1':=(a4 wb w1.2).trans w1.1;unfold cT at w1';have g6':=(a4 s.a (by omega)).trans g6;obtain⟨b1,b2⟩:=AP (st:=s1) (z:=[.int .i64 0,.int .i64 0,.Ca]) (cs:=[.int .i64 k.op,.int .i64 k.n,CI k.g]) (T:=39) (own:=fun x=>x=wb\/x=mb) dt;have c6:=c5.g b1 (fun _ h=>h) (fun _ h=> .inl h) (Qj _);have l6:=l5.g b2;cases hT:Xt c.b c.c k with
 |false=>
  have mP:¬fF c.b c.c t nm:=fun hg=>by
   have:=hg.2;rw[hk,hT]at this;cases this
  rw[hT]at gg;have JE:=gg;refine Lo (kz U) U<|Ln (kw U a1 U) U<|Ld<|Ad (by kernel_rfl)<|Nv 4 U ?_;iterate 2 refine NM U ‹_› U (.inl U) U ?_
  refine Na (kC U (JE)) (.inl U) U<|Nv 1 U ?_;refine Cz.named fun sC dG=>?_;have cC:CL s.u sC (fun x=>x=wb\/x=mb):=by rw[dG];exact c6
  have lC:Ch s.u sC:=by rw[dG];exact l6
  clear dG;have zd:sC.c<=sC.a:=by rw[cC.a];exact cC.d
  refine EE (by kernel_rfl) U U U (Fo (e:=3) (s:=sC.B sC.b) (R:=fun _ _=>False) (RP:=fun v s2=>v=bN 3/\s2=sC.B sC.b) DK ⟨rfl,rfl⟩) (J6 (by kernel_rfl)) U (.inl U) U U (fun _ _ h=>h.elim) ?_;rintro v s2 ⟨rfl,rfl⟩;obtain⟨p1,p2,p3,p4,p5⟩:=Gv (own:=fun x=>x=wb\/x=mb) (S:=sC) (s2:=sC.B sC.b) CL.A Ch.A zd;refine⟨p1,p2,(fun e he=>by cases he),⟨rfl,hP mP _ (CL.u (cC.g p3 (fun _ h=>h) (fun _ h=> .inl h) (Qj _))) fun hb=>Ch.u (lC.g p4) hb⟩,?_⟩;repeat (first|exact aC.done|refine aC.desc (by decide+kernel) rfl rfl ?_|refine aC.q (by kernel_rfl) (kq rfl) (.inl rfl) rfl rfl ?_)
 |true=>
  rw[hT]at gg;have JE:=gg;have hg:fF c.b c.c t nm:=⟨rj,by rw[hk];exact hT⟩
  refine Lo (kz U) U<|Ln (kw U a1 U) U<|Ld<|Ad (by kernel_rfl)<|Nv 4 U ?_;iterate 2 refine NM U ‹_› U (.inl U) U ?_
  refine Na (kC U (JE)) (.inl U) U<|Nv 1 U ?_;refine Na (kC U (GY)) (.inl U) U<|Cz.done<|Es<|Lo (kL U a2 U) U<|Ln (kw U g6' U) U<|Ld ?_;refine Az fun sF ij=>?_;have gF:sF.b.g s.a=some (.J [.int .i64 k.op,.int .i64 k.n,CI k.g] 39 false):=by rw[ij];exact Ah.trans (if_pos rfl)
  have cF:CL s.u sF (fun x=>x=wb\/x=mb):=by rw[ij];exact c6.g CL.B (fun _ h=>h) (fun y h=> .inr (by show s.a<=y;rw[h];exact Qj _)) (Qj _)
  have lF:Ch s.u sF:=by rw[ij];exact l6.g Ch.B
  have mF:wb∈sF.d:=by rw[ij];exact AZ (b2.a wb m5)
  have wF:sF.b.g wb=some (.J (cT c at_ v Cc mb l2) 87 false):=by rw[ij];exact(Ah.trans (if_neg (by show wb≠s.a;omega))).trans ((a4 wb w1.2).trans w1.1)
  have hmF:sF.b.g mb=some (.Y (ZH 0 (CC t nm).2) (CC t nm).2.length):=by rw[ij];exact(Ah.trans (if_neg (by show mb≠s.a;omega))).trans ((a4 mb m1.2).trans m1.1)
  have nF:s.a<sF.a:=by rw[ij];show s.a<s1.a+1;omega
  clear ij;have jn:=hR hg (s.G sF) _ (CL.u cF) ⟨wF,by show wb<sF.a;omega⟩ ⟨hmF,by show mb<sF.a;omega⟩ (fun hb=>Ch.u lF hb) fun hb=>BV mF hb;rw[A4 k]at jn;refine Se ?_;exact AC ⟨.inl U,_,U,[.O [.int .i64 k.op,.int .i64 k.n,CI k.g]],BZ U U U gF (Qj _) U,_,Dt (by kernel_rfl) (List.ne_nil_of_mem mF),jn⟩
theorem iy.A {s s':St} {c:Cj} {v:AV} {Cc:List Int} {l:List C8} (h:iy s wb c at_ v Cc mb left nm l la) (hn:s.a<=s'.a) (hh:∀d,d<s.a->(∀cs pt,s.b.g d≠some (.J cs 39 pt))->(∀cs pt,s.b.g d≠some (.J cs 41 pt))->s'.b.g d=s.b.g d):iy s' wb c at_ v Cc mb left nm l la:=by
 have k1:∀ {T:TypeId},T≠87->∀cs pt,s.b.g wb≠some (.J cs T pt):=fun hT cs pt e=>by rw[h.a.1]at e;simp only[Option.some.injEq,CG.J.injEq]at e;exact hT e.2.1.symm
 have k2:∀ {T:TypeId} cs pt,s.b.g mb≠some (.J cs T pt):=fun cs pt e=>by rw[h.b.1]at e;cases e
 have k3:∀ {T:TypeId} {d:Nat},T≠161->T≠3->(CB d v=true\/∃cs,s.b.g d=some (.J cs 3 true))->∀cs pt,s.b.g d≠some (.J cs T pt):=fun hT uu hx cs pt e=>by
  rcases hx with hx|⟨Yg,hx⟩
  .exact Fp h.d.b e (fun e=>hT e.symm) hx
  .rw[hx]at e;simp only[Option.some.injEq,CG.J.injEq]at e;exact uu e.2.1.symm
 exact⟨h.a.CQ hn (hh wb h.a.2 (k1 (by decide)) (k1 (by decide))),h.d.g hn fun d hd hx=>hh d hd (k3 (by decide) (by decide) hx) (k3 (by decide) (by decide) hx),⟨(hh mb h.b.2 k2 k2).trans h.b.1,Nat.lt_of_lt_of_le h.b.2 hn⟩⟩
def YG (l:List C8) (j:Nat):List Nat:=(List.range j).filter fun i=>(l.getD i C8.g).c
theorem Ly {l:List C8} (h:j<l.length):YG l (j+1)=YG l j++if l[j].c=true then [j]else []:=by
 unfold YG;rw[List.range_succ,List.filter_append]
 congr 1
 rw[List.filter_cons,List.filter_nil,Ao h]
theorem Vj {l:List C8} (h:j<=l.length):∃b,YG l l.length=YG l j++b:=by
 obtain⟨k,hk⟩:∃k,l.length=j+k:=⟨l.length-j,by omega⟩
 rw[hk];unfold YG;rw[List.range_add,List.filter_append];exact⟨_,U⟩
theorem zg {s:St} {l:List C8} (hj:j<l.length) (hj2:j<la.length) (hg:s.b.g b=some (.J ((l.zip la).flatMap (Ct c9)) 161 true)):
 Wq (EK W1) 161 s (.J b (0+j*(5+1)))=some (.O [.bool l[j].c,.bool l[j].a,.bool l[j].b,.int .i64 l[j].op,.int .i64 l[j].n,la[j]]):=by
 have hjL:j<(l.zip la).length:=by rw[List.length_zip];omega
 have e0:(l.zip la)[j]=(l[j],la[j]):=List.getElem_zip;rw[Bl xR G8 hg (by rw[AR (fun _=>rfl)];omega),show 0+j*(5+1)=j*6 by omega,FZ (fun _=>rfl) hjL,e0];rfl
theorem Jv:∀ {ts:List Zz} {nm:List Nat} {j:Nat} (h:j<ts.length) {h':j<(Cf ts nm).1.length},(Cf ts nm).1[j]=(CC ts[j] (Cf (ts.take j) nm).2).1
 |t::ts,nm,0,_,h'=>by
  have e:(Cf (t::ts) nm).1=(CC t nm).1::(Cf ts (CC t nm).2).1:=by rw[Cf]
  simp only[e,List.getElem_cons_zero,List.take_zero];rw[Cf]
 |t::ts,nm,j+1,h,h'=>by
  have e:(Cf (t::ts) nm).1=(CC t nm).1::(Cf ts (CC t nm).2).1:=by rw[Cf]
  simp only[e,List.getElem_cons_succ,List.take_succ_cons];rw[Jv (ts:=ts) (nm:=(CC t nm).2) (Nat.lt_of_succ_lt_succ h),Cf]
theorem zh {s:St} {c:Cj} {f r:Nat} {v:AV} {Cc:List Int} {l:List C8} {rhs:Zz} (WO:Yf l) (vd:SigOk c) (hS:iy s wb c at_ v Cc mb left [] l la) (hl:l.length<=60) (hk:at_<c.a.length) (tp:CO c.a[at_]= .J (r:Nat))
 (hf:f<c.c.length) (hna:c.c[f].2=(ts.length:Nat)) (hn4:ts.length<=4) (fT:∀i (h:i<ts.length),Is l ts[i] i) (hrhs:Is l rhs r) 
 (hR:∀q,YA c.b c.c (f:Nat) ts (YG l l.length) rhs=some q->∀s',CL s s' (fun x=>x=wb\/x=mb)->(s.c<=s.a->Ch s s')->R (.O (W3 q)) s')
 (hP:YA c.b c.c (f:Nat) ts (YG l l.length) rhs=none->∀s',CL s s' (fun x=>x=wb\/x=mb)->(s.c<=s.a->Ch s s')->RP (bN 3) s'):
 VX (EK W1) 42 [.J wb 0,.int .i64 (f:Nat)] s R RP:=by
 refine Ar U ?_;obtain⟨sA,XP⟩:∃x,x=s.u.g (.J [.int .i64 0,.Ca,.int .i64 0,.int .i64 0,.Ca,.int .i64 0] 41 false):=⟨_,rfl⟩
 have nA:sA.a=s.a+1:=by rw[XP];rfl
 have bA:sA.c=s.a:=by rw[XP];rfl
 have oA:∀d,d<s.a->sA.b.g d=s.b.g d:=fun d hd=>by rw[XP];exact Ap hd
 have gA:sA.b.g s.a=some (.J [.int .i64 0,.Ca,.int .i64 0,.int .i64 0,.Ca,.int .i64 0] 41 false):=by rw[XP];exact Ax
 have cA:CL s.u sA (fun x=>x=wb\/x=mb):=by rw[XP];exact CL.z
 have lA:Ch s.u sA:=by rw[XP];exact Ch.z (Qj _)
 have zi:sA.c<=sA.a:=by omega
 obtain⟨a1,a2,a3,a4,a5,a6,a7⟩:=AU (st:=sA) (z:=[.int .i64 0,.Ca,.int .i64 0,.int .i64 0,.Ca,.int .i64 0]) (cs:=[.int .i64 (f:Nat),.Ca,.int .i64 0,.int .i64 0,.Ca,.int .i64 0]) (T:=41);obtain⟨b1,b2⟩:=AP (st:=sA) (z:=[.int .i64 0,.Ca,.int .i64 0,.int .i64 0,.Ca,.int .i64 0]) (cs:=[.int .i64 (f:Nat),.Ca,.int .i64 0,.int .i64 0,.Ca,.int .i64 0]) (T:=41) (own:=fun x=>x=wb\/x=mb) zi;refine Es<|Lo (kz U) U<|Ld ?_;show Cu _ _ _ _ (s.u.g (.J [.int .i64 0,.Ca,.int .i64 0,.int .i64 0,.Ca,.int .i64 0] 41 false)) _;rw[<-XP];refine Es<|Lv 2 U<|Lo (kz U) U<|Ln (kw U a1 U) U<|Ld<|Sq ?_;refine Az fun sL nN=>?_;have nL:sL.a=s.a+2:=by rw[nN];show sA.a+1=_;omega
 have oL:∀d,d<sA.a->sL.b.g d=sA.b.g d:=fun d hd=>by rw[nN];exact a4 d hd
 have gL5:sL.b.g sA.a=some (.J [.int .i64 (f:Nat),.Ca,.int .i64 0,.int .i64 0,.Ca,.int .i64 0] 41 false):=by rw[nN];exact a2
 have gL4:=(oL s.a (by omega)).trans gA;have cL:CL s.u sL (fun x=>x=wb\/x=mb):=by rw[nN];exact cA.g b1 (fun _ h=>h) (fun _ h=> .inl h) (Qj _)
 have lL:Ch s.u sL:=by rw[nN];exact lA.g b2
 have bL:sL.c=s.a:=cL.a;have kg:sL.c<=sL.a:=by omega
 have hSL:=hS.u (by omega) fun d hd=>(oL d (by omega)).trans (oA d hd);clear nN XP a1 a2 a3 a4 a5 a6 a7 b1 b2 oA gA oL cA lA zi;have fk:=hS.a.2;have zf:=hS.b.2;have wL:=hSL.a.1;unfold cT at wL;have uf:=Af Av hf;unfold Ok at uf;rw[hna]at uf;refine Es<|Lv 5 U<|Lo (kl U wL U) U<|qm U<|Lq (kv U uf) U<|Lw U<|Sb ?_;refine Ai (fun x:Nat×AV×St×Int=>([(23,.int .i64 (x.1:Nat)),(22,.int .i64 (ts.length:Nat)),(5,.J sA.a 0),(4,.J s.a 0),(1,.int .i64 (f:Nat)),(0,.J wb 0)],x.2.2.1)) (fun x=>ts.length-x.1)
  (fun x=>x.1<=ts.length/\(∀j (h:j<ts.length),j<x.1->fF c.b c.c ts[j] (Cf (ts.take j) []).2)/\(Cf (ts.take x.1) []).2.length<=20/\CL sL x.2.2.1 (fun y=>y=wb\/y=mb\/y=sA.a)/\Ch sL x.2.2.1/\iy x.2.2.1 wb c at_ v Cc mb x.2.2.2 (Cf (ts.take x.1) []).2 l la/\
   x.2.2.1.b.g sA.a=some (.J [.int .i64 (f:Nat),x.2.1,.int .i64 0,.int .i64 0,.Ca,.int .i64 0] 41 false)/\a_ x.2.2.1 39 3 x.2.1 ((Cf (ts.take x.1) []).1.flatMap Cm) x.1/\∀y,CB y x.2.1=true->sL.a<=y)
  (0,.Ca,sL,left) ⟨Qo _,fun j _ h=>absurd h (Nat.not_lt_zero _),by rw[List.take_zero,Cf];exact Qo _,CL.A,Ch.A,by rw[List.take_zero,Cf];exact hSL,gL5,by rw[List.take_zero,Cf];exact a_.nil _ _ _,fun y h=>by cases h⟩ rfl (Ab (by repeat' constructor)) ?_
 rintro⟨i,pv,st,lf⟩ ⟨hi,Ya,hn20,cI,lI,nO,g5,gS,oI⟩;dsimp only at hi Ya hn20 cI lI nO g5 gS oI|-;have nI:=cI.d;have uH:st.c<=st.a:=by rw[cI.a];omega
 have g4:=(cI.b s.a (by omega) (by omega)).trans gL4;by_cases C5:i<ts.length
 .have g5k:=fun(_:True)=>g5;clear g5;focus
   refine Ew U<|Sq ?_;refine Cd U (fun h5=>?_) (fun h5=>?_);refine Sk<|Sq<|Sb<|Ew U<|AK (by kernel_rfl)<|Nv 1 U ?_;rotate_left;exact absurd h5 (by omega)
  have g5:=g5k trivial;clear g5k;refine Dl U I0 Gg U g5 U (IA gS) (EU gS) U (.inl U) U U<|Nv 2 U ?_;refine EE (by kernel_rfl) U U U (Nb WO vd (s:=st.B st.b) (fT i C5) nO.B hn20
   (R:=fun v2 s2=>∃lf2,fF c.b c.c ts[i] (Cf (ts.take i) []).2/\v2= .O (Cm (CC ts[i] (Cf (ts.take i) []).2).1)/\CL (st.B st.b) s2 (fun x=>x=wb\/x=mb)/\YQ s2 wb c at_ v Cc mb lf2/\aN s2 mb (CC ts[i] (Cf (ts.take i) []).2).2/\Ch (st.B st.b) s2)
   (RP:=fun v2 s2=>¬fF c.b c.c ts[i] (Cf (ts.take i) []).2/\v2=bN 3/\CL (st.B st.b) s2 (fun x=>x=wb\/x=mb)/\Ch (st.B st.b) s2)
   (fun hg s2 lf2 c1 w1 m1 l1 _=>⟨lf2,hg,rfl,c1,w1,m1,l1 (Qj _)⟩) (fun hg s2 c1 l1=>⟨hg,rfl,c1,l1 (Qj _)⟩)) ?_ rfl (.inl rfl) rfl rfl ?_ ?_
  .exact J6 (by kernel_rfl)
  .rintro v2 s2 ⟨lf2,hg,rfl,c1,w1,m1,l1⟩;obtain⟨p1,p2,p3,p4,p5⟩:=Gv c1 l1 uH;have g52:=(c1.b sA.a (show sA.a<st.a by omega) (by omega)).trans g5;refine⟨p1,p2,fun e he=>?_,fun dA cS=>?_⟩
   .rw[Qp.1 he];exact .inr (.inr ⟨_,_,_,g52,U⟩)
   have et:Cf (ts.take (i+1)) []=((Cf (ts.take i) []).1++[(CC ts[i] (Cf (ts.take i) []).2).1],(CC ts[i] (Cf (ts.take i) []).2).2):=by
    rw[List.take_succ_eq_append_getElem C5,E5,La]
   have n3:(st.A s2).a=s2.a:=rfl;have hw3:=(p5 wb w1.2).trans w1.1;have tK:=(p5 mb m1.2).trans m1.1;refine Cz.named fun s3 qz=>?_;rw[<-qz]at p3 p4 n3 hw3 tK;clear qz;have hS3:iy s3 wb c at_ v Cc mb lf2 (CC ts[i] (Cf (ts.take i) []).2).2 l la:=⟨⟨hw3,by rw[n3];exact w1.2⟩,FC nO p3,⟨tK,by rw[n3];exact m1.2⟩⟩
   have g53:=(p3.b sA.a (by omega) (by omega)).trans g5;have b3:s3.c<=s3.a:=by rw[p3.a];omega
   have rQ:a_ s3 39 3 pv ((Cf (ts.take i) []).1.flatMap Cm) i:=gS.CQ p3.d fun y hy=>p3.b y (gS.own hy) (by have:=oI y hy;omega);have ek:=A4 (CC ts[i] (Cf (ts.take i) []).2).1;rw[ek];generalize hk:(CC ts[i] (Cf (ts.take i) []).2).1=k at*;refine AI U nr Ks qe U U U (.inl U) U U ?_;refine ED (new:=[.int .i64 k.op,.int .i64 k.n,CI k.g]) rQ b3 U (by decide) (A3 (by omega) (by decide)) (A3 (by omega) (by decide)) U U U U nr Ks VA qe (by kernel_rfl) (by kernel_rfl) U U (by kernel_rfl) (by rw[List.all_cons,cS.all U (by kernel_rfl)];kernel_rfl) (.inl U) U U fun v2 s4 nl4 g4' o4 c4 l4 Y8=>?_;refine Nv 1 U ?_;have fU:v2.g=[v2]/\v2.u=false:=by rcases g4' with⟨rfl,_⟩|⟨_,rfl,_⟩<;>exact⟨rfl,rfl⟩
   have Xo:¬CB sA.a pv=true:=fun h=>by have:=oI _ h;omega
   have sV:CB sA.a pv=false:=by simpa using Xo
   have n4:=c4.d;have g54:=(c4.b sA.a (by omega) Xo).trans g53;refine B8 (by omega) U Gg U U g54 (by rw[fU.1];rfl) fU.2 (by rw[fU.1];rfl) (Y8 sA.a (by omega) sV _ (AH (by rw[List.all_cons,cS.all U (by kernel_rfl)];kernel_rfl))) (by kernel_rfl) (.inl U) U U ?_;refine Cz.done<|Sr ?_;refine Lq (ka (b:=1) U (by omega)) U ?_;refine Lw U ?_;have hS5:iy (bj s4 sA.a (some (.J [.int .i64 (f:Nat),v2,.int .i64 0,.int .i64 0,.Ca,.int .i64 0] 41 false))) wb c at_ v Cc mb lf2 (CC ts[i] (Cf (ts.take i) []).2).2 l la:=hS3.A n4 fun y hy hT hU=>(VY.trans (if_neg fun e=>by subst e;exact hU _ _ g53)).trans (c4.b y hy fun ho=>by
    rcases rQ with⟨rfl,_⟩|⟨b',rfl,_,kB,_⟩
    .cases ho
    .obtain rfl:b'=y:=Qb ho;exact hT _ _ kB)
   refine⟨(i+1,v2,bj s4 sA.a (some (.J [.int .i64 (f:Nat),v2,.int .i64 0,.int .i64 0,.Ca,.int .i64 0] 41 false)),lf2),⟨C5,fun j hj hji=>?_,by rw[et];exact hg.1,?_,((lI.g p4).g l4).g Fx,by rw[et];exact hS5,VY.trans (if_pos U),?_,fun y hy=>by have:=o4 y hy;omega⟩,by show ts.length-(i+1)<ts.length-i;omega,rfl,rfl,Ab (by repeat' constructor)⟩
   .rcases Nat.lt_or_ge j i with h|h
    .exact Ya j hj h
    .obtain rfl:j=i:=by omega
     exact hg
   .exact((cI.g p3 (own:=fun y=>y=wb\/y=mb\/y=sA.a) (fun _ h=>h) (fun y h=> .inl (h.imp id .inl)) kg).g c4 (fun _ h=>h) (fun y h=> .inr (oI y h)) kg).g De (fun _ h=>h) (fun y h=> .inl (.inr (.inr h))) kg
   .show a_ (bj s4 _ _) 39 3 v2 ((Cf (ts.take (i+1)) []).1.flatMap Cm) (i+1);rw[et,List.flatMap_append,List.flatMap_cons,List.flatMap_nil,List.append_nil,ek];exact g4'.CQ (Qj _) fun y hy=>VY.trans (if_neg fun e=>by have:=o4 y hy;omega)
  .rintro v2 s2 ⟨hg,rfl,c1,l1⟩;obtain⟨p1,p2,p3,p4,p5⟩:=Gv c1 l1 uH;have g52:=(c1.b sA.a (show sA.a<st.a by omega) (by omega)).trans g5;refine⟨p1,p2,fun e he=>?_,⟨rfl,hP ?_ _ (CL.u ?_) fun hb=>Ch.u ((lL.g lI).g p4) hb⟩,?_⟩
   .rw[Qp.1 he];exact .inr (.inr ⟨_,_,_,g52,U⟩)
   .rw[<-List.take_append_drop i ts,List.drop_eq_getElem_cons C5];exact Sg hg
   .exact(cL.g cI (fun _ h=>h) (fun y h=>by
     rcases h with h|h|h
     .exact .inl (.inl h)
     .exact .inl (.inr h)
     .exact .inr (by show s.a<=y;omega)) (Qj _)).g p3 (fun _ h=>h) (fun _ h=> .inl h) (Qj _)
   .repeat (first|exact aC.done|refine aC.desc (by decide+kernel) rfl rfl ?_|refine aC.q (by kernel_rfl) (kq rfl) (.inl rfl) rfl rfl ?_)
 .obtain rfl:i=ts.length:=by omega
  rw[List.take_length]at hn20 nO gS;have wI:=nO.a.1;unfold cT at wI;have hlv:=nO.d.b.len;have hlaL:la.length=l.length:=nO.d.a;generalize hnP:(Cf ts []).2=nmP at*;focus
   refine Ew U<|Sq ?_;refine Cd U (fun h6=>?_) (fun h6=>?_);exact absurd h6 (by omega);refine Sx<|A0 U<|Sq<|Es<|Lv 3 U<|Lo (kl U wI U) U<|Lq (kn U hlv) U<|Lw U<|Sb ?_;rotate_left
  refine Ai (fun x:Nat×St×List Nat=>([(40,.int .i64 (x.1:Nat)),(39,.int .i64 (l.length:Nat)),(38,v),(5,.J sA.a 0),(4,.J s.a 0),(0,.J wb 0)],x.2.1)) (fun x=>l.length-x.1)
   (fun x=>x.1<=l.length/\x.2.2=(YG l x.1).foldl X6 nmP/\x.2.2.length<=20/\CL st x.2.1 (fun y=>y=wb\/y=mb)/\Ch st x.2.1/\iy x.2.1 wb c at_ v Cc mb lf x.2.2 l la)
   (0,st,nmP) ⟨Qo _,rfl,hn20,CL.A,Ch.A,nO⟩ rfl (Ab (by repeat' constructor)) ?_
  rintro⟨j,sj,nm⟩ ⟨hj,lU,dx,cJ,lJ,hSJ⟩;dsimp only at hj lU dx cJ lJ hSJ|-;have nJ:=cJ.d;have hbJ:sj.c<=sj.a:=by rw[cJ.a];omega
  by_cases hlj:j<l.length
  .obtain⟨b,hve,eN,vg,ru⟩:=hSJ.d.b.at hlj;have hj2:j<la.length:=by omega
   have ldr:=zg hlj hj2 vg;subst hve;obtain⟨a1,a2,a3,a4,a5,a6,a7⟩:=AU (st:=sj) (z:=[.bool false,.bool false,.bool false,.int .i64 0,.int .i64 0,.Ca]) (cs:=[.bool l[j].c,.bool l[j].a,.bool l[j].b,.int .i64 l[j].op,.int .i64 l[j].n,la[j]]) (T:=161);obtain⟨b1,b2⟩:=AP (st:=sj) (z:=[.bool false,.bool false,.bool false,.int .i64 0,.int .i64 0,.Ca]) (cs:=[.bool l[j].c,.bool l[j].a,.bool l[j].b,.int .i64 l[j].op,.int .i64 l[j].n,la[j]]) (T:=161) (own:=fun x=>x=wb\/x=mb) hbJ;have ef:=Ly hlj;focus
    refine Ew U<|Sq ?_;refine Cd U (fun h7=>?_) (fun h7=>?_);refine Sk<|Sq<|Sb<|Es<|qm U ?_;refine Lq (kM U (by omega)) U ?_;refine Lo (AQ U U ldr) U<|Lo (kz U) U<|qa U<|Ln (kw U a1 U) U<|Ld<|Es<|Lv 1 U<|Lo (kl U a2 U) U<|Ld ?_;refine Cb U (fun g8=>?_) (fun g8=>?_);refine Sr<|Lv 2 U ?_;rotate_left;refine Sk<|Sr ?_;refine Lq (ka (b:=1) U (by omega)) U ?_;refine Lw U ?_;rotate_left;exact absurd h7 (by omega)
   .rw[if_pos g8]at ef;refine CA.named fun sK hsK=>?_;have cK:CL sj sK (fun x=>x=wb\/x=mb):=by rw[hsK];exact b1
    have lK:Ch sj sK:=by rw[hsK];exact b2
    have hSK:iy sK wb c at_ (.Z b 0 l.length (5+1) none) Cc mb lf nm l la:=by rw[hsK];exact hSJ.u (Nat.le_succ _) a4
    clear hsK a1 a2 a3 a4 a5 a6 a7 b1 b2 ldr;refine An U U (by kernel_rfl) U U U U (NQ hSK.a hSK.b (by omega) fun s1 c1 n1 m1 l1=>?_);have c1':=FY c1 (o2:=fun y=>y=wb\/y=mb) fun d h=> .inr h;have hbK:sK.c<=sK.a:=by rw[cK.a];have:=cK.d;omega
    have c5:=(cJ.g cK (fun _ h=>h) (fun _ h=> .inl h) uH).g c1' (fun _ h=>h) (fun _ h=> .inl h) uH;have l5:=(lJ.g lK).g (l1 hbK);have wm:mb≠wb:=fun e=>by have:=hS.b.1;rw[e,hS.a.1]at this;cases this
    split
    .next rj=>
     have h20':=(Kf dx).1 rj;refine Ld<|Sr ?_;refine Lq (ka (b:=1) U (by omega)) U ?_;refine Lw U ?_;refine⟨(j+1,s1,X6 nm j),⟨hlj,?_,h20',c5,l5,⟨hSK.a.CQ c1.d (c1.b wb hSK.a.2 fun e=>wm e.symm),FC hSK c1',m1⟩⟩,by show l.length-(j+1)<l.length-j;omega,rfl,rfl,Ab (by repeat' constructor)⟩;rw[ef,List.foldl_append,<-lU];rfl
    .next rj=>
     refine⟨rfl,hP ?_ _ (CL.u ?_) fun hb=>Ch.u ((lL.g lI).g l5) hb⟩
     .obtain⟨b',ZJ⟩:=Vj (show j+1<=l.length from hlj);rw[ZJ];refine Pt ?_;rw[ef,List.foldl_append,hnP,<-lU];have:=mt (Kf dx).2 rj;show 20<(X6 nm j).length;omega
     .exact(cL.g cI (fun _ h=>h) (fun y h=>by
       rcases h with h|h|h
       .exact .inl (.inl h)
       .exact .inl (.inr h)
       .exact .inr (by show s.a<=y;omega)) (Qj _)).g c5 (fun _ h=>h) (fun _ h=> .inl h) (Qj _)
   .rw[if_neg (by simp[*])]at ef;rw[List.append_nil]at ef;exact⟨(j+1,_,nm),⟨hlj,by rw[ef];exact lU,dx,cJ.g b1 (fun _ h=>h) (fun _ h=> .inl h) uH,lJ.g b2,hSJ.u (Nat.le_succ _) a4⟩,by show l.length-(j+1)<l.length-j;omega,rfl,rfl,Ab (by repeat' constructor)⟩
  .obtain rfl:j=l.length:=by omega
   have wJ:=hSJ.a.1;unfold cT at wJ;have Z4:=Af A8 hk;have Br:W1 51 [.O (Wj c.a[at_])]=some (shA (.J (r:Nat))):=by
    rw[<-tp];exact Go.Proofs.YtpihdbhocgcbpaaGreatDoor.Br
   obtain⟨a1,a2,a3,a4,a5,a6,a7⟩:=AU (st:=sj) (z:=[.int .i64 0]) (cs:=[.int .i64 (r:Nat)]) (T:=121);clear a1 a2 a3 a4 a5 a6 a7;focus
    refine Ew U<|Sq ?_;refine Cd U (fun h7=>?_) (fun h7=>?_);exact absurd h7 (by omega);refine Sx<|A0 U<|Sq<|Ad (by kernel_rfl)<|Nv 4 U<|Nm U wJ U (.inl U) U<|Nv 3 U<|Nm U wJ U (.inl U) U<|Nq (kv U Z4) U<|Nv 1 U ?_;refine Na (kC U (Br)) (.inl U) U<|Nv 4 U ?_;rotate_left
   refine Cz.alloc U z_121 U U U U ?_
   skip
   refine B8 (Nat.lt_succ_self sj.a) U sz_121 U U Ax U U U (AH (by kernel_rfl)) (by kernel_rfl) (.inl U) U U<|Nw U ?_;refine Cu.sub (l':=[(10,.bool true),(9,.J sj.a 0),(5,.J sA.a 0),(4,.J s.a 0),(0,.J wb 0)]) ?_ (Ab (by repeat' constructor));refine Az fun sM jk=>?_;replace jk:sM=bj (sj.g (.J [.int .i64 0] 121 false)) sj.a (some (.J [.int .i64 (r:Nat)] 121 false)):=jk;have cM:CL sj sM (fun x=>x=wb\/x=mb):=by rw[jk];exact(CL.z (own:=fun x=>x=wb\/x=mb)).g De (fun _ h=>h) (fun d h=> .inr (Nat.le_of_eq h.symm)) hbJ
   have lM:Ch sj sM:=by rw[jk];exact(Ch.z hbJ).g Fx
   have oM:∀d,d<sj.a->sM.b.g d=sj.b.g d:=fun d hd=>by rw[jk];exact(VY.trans (if_neg (by omega))).trans (Ap hd)
   have gM9:sM.b.g sj.a=some (.J [.int .i64 (r:Nat)] 121 false):=by rw[jk];exact VY.trans (if_pos rfl)
   have nM:sM.a=sj.a+1:=by rw[jk];rfl
   clear jk;have hSM:=hSJ.u (by omega) oM;have g5M:=(oM sA.a (by omega)).trans ((cJ.b sA.a (by omega) (by omega)).trans g5);have g4M:=(oM s.a (by omega)).trans ((cJ.b s.a (by omega) (by omega)).trans g4);have cE:CL s.u sM (fun x=>x=wb\/x=mb):=((cL.g cI (fun _ h=>h) (fun y h=>by
    rcases h with h|h|h
    .exact .inl (.inl h)
    .exact .inl (.inr h)
    .exact .inr (by show s.a<=y;omega)) (Qj _)).g cJ (fun _ h=>h) (fun _ h=> .inl h) (Qj _)).g cM (fun _ h=>h) (fun _ h=> .inl h) (Qj _)
   have lE:=((lL.g lI).g lJ).g lM;have hbM:sM.c<=sM.a:=by rw[cE.a];show s.a<=_;omega
   have grM:a_ sM 39 3 pv ((Cf ts []).1.flatMap Cm) ts.length:=gS.CQ (by omega) fun y hy=>(oM y (by have:=gS.own hy;omega)).trans (cJ.b y (gS.own hy) (by have:=oI y hy;omega));refine Ew U<|Tt U<|Sr<|Lv 2 U<|Lo (kl U gM9 U) U ?_;refine An U U (by kernel_rfl) U U U U (Nb WO vd hrhs hSM dx (fun hg s1 lf1 c1 w1 m1 l1 mm=>?_) (fun hg s1 c1 l1=>?_));rotate_left
   .exact⟨rfl,hP (Sf (by rw[hnP,<-lU];exact hg)) _ (CL.u (cE.g c1 (fun _ h=>h) (fun _ h=> .inl h) (Qj _))) fun hb=>Ch.u (lE.g (l1 hbM)) hb⟩
   have c5:=cE.g c1 (fun _ h=>h) (fun _ h=> .inl h) (Qj _);have l5:=lE.g (l1 hbM);have mm5:=mm (by rw[cE.a];exact fk);have g51:=(c1.b sA.a (by omega) (by omega)).trans g5M;have g41:=(c1.b s.a (by omega) (by omega)).trans g4M;have n1:=c1.d;have gr1:a_ s1 39 3 pv ((Cf ts []).1.flatMap Cm) ts.length:=grM.CQ n1 fun y hy=>c1.b y (grM.own hy) (by have:=oI y hy;omega);have ek:=A4 (CC rhs nm).1;rw[ek];generalize hk:(CC rhs nm).1=k at*;refine Lv 1 U<|Ln (kw U g51 U) U<|Ld<|Es<|Lv 3 U ?_;refine CA.named fun s2 jm=>?_;have pS:s2.b.g mb=some (.Y (ZH 0 (CC rhs nm).2) (CC rhs nm).2.length):=by rw[jm];exact(Ah.trans (if_neg (by omega))).trans m1.1
   have g52:s2.b.g sA.a=some (.J [.int .i64 (f:Nat),pv,.int .i64 k.op,.int .i64 k.n,CI k.g,.int .i64 0] 41 false):=by rw[jm];exact Ah.trans (if_pos rfl)
   have o2:∀y,y≠sA.a->s2.b.g y=s1.b.g y:=fun y hy=>by rw[jm];exact Ah.trans (if_neg hy)
   have c2:CL s1 s2 (fun y=>y=sA.a):=by rw[jm];exact CL.B
   have l2:Ch s1 s2:=by rw[jm];exact Ch.B
   have g42:=(o2 s.a (by omega)).trans g41;clear jm;have w2:=(o2 wb (by omega)).trans w1.1;unfold cT at w2;refine Lo (kl U w2 U) U<|Lo (Gf U U U U OZ U pS) U ?_;rw[F5];refine Lv 1 U<|Ln (kw U g52 U) U<|Ld<|Es ?_;refine CA.named fun s6 zj=>?_;have g56:s6.b.g sA.a=some (.J [.int .i64 (f:Nat),pv,.int .i64 k.op,.int .i64 k.n,CI k.g,.int .i64 ((CC rhs nm).2.length:Nat)] 41 false):=by rw[zj];exact Ah.trans (if_pos rfl)
   have o6:∀y,y≠sA.a->s6.b.g y=s2.b.g y:=fun y hy=>by rw[zj];exact Ah.trans (if_neg hy)
   have c6:CL s2 s6 (fun y=>y=sA.a):=by rw[zj];exact CL.B
   have l6:Ch s2 s6:=by rw[zj];exact Ch.B
   have g46:=(o6 s.a (by omega)).trans g42;clear zj;refine Lo (kL U g56 U) U<|Ln (kw U g46 U) U<|Ld ?_;refine Az fun sF ij=>?_;have gF:sF.b.g s.a=some (.J [.int .i64 (f:Nat),pv,.int .i64 k.op,.int .i64 k.n,CI k.g,.int .i64 ((CC rhs nm).2.length:Nat)] 41 false):=by rw[ij];exact Ah.trans (if_pos rfl)
   have hnA:∀y,y=sA.a->s.u.a<=y:=fun y hy=>by show s.a<=y;omega
   have cF:CL s.u sF (fun x=>x=wb\/x=mb):=by
    rw[ij];exact((c5.g c2 (fun _ h=>h) (fun y h=> .inr (hnA y h)) (Qj _)).g c6 (fun _ h=>h) (fun y h=> .inr (hnA y h)) (Qj _)).g CL.B (fun _ h=>h) (fun y h=> .inr (by show s.a<=y;rw[h];exact Qj _)) (Qj _)
   have lF:Ch s.u sF:=by rw[ij];exact((l5.g l2).g l6).g Ch.B
   have mF:wb∈sF.d:=by rw[ij];exact AZ (l6.a wb (l2.a wb mm5))
   have nF:s1.a<=sF.a:=by rw[ij];exact Nat.le_trans c2.d c6.d
   have grF:a_ sF 39 3 pv ((Cf ts []).1.flatMap Cm) (Cf ts []).1.length:=by
    rw[BU];exact gr1.CQ nF fun y hy=>by
     have:=oI y hy;rw[ij];exact(Ah.trans (if_neg (by omega))).trans ((o6 y (by omega)).trans (o2 y (by omega)))
   clear ij;obtain⟨bs,vD,hz⟩:=HL (m:=0) (j:=37) grF fun _ _=>Qo _;have mH:∀y∈bs,s.a<=y:=fun y hy=>by have:=oI y (vD y hy);omega
   have rK:C9 sF 0 40 (.O [.int .i64 (f:Nat),pv,.int .i64 k.op,.int .i64 k.n,CI k.g,.int .i64 ((CC rhs nm).2.length:Nat)]) []=some (.O [.int .i64 (f:Nat),CI (Cf ts []).1,.int .i64 k.op,.int .i64 k.n,CI k.g,.int .i64 ((CC rhs nm).2.length:Nat)],bs):=by
    show((C9.many (C9 sF 0 39) [.int .i64 (f:Nat),pv,.int .i64 k.op,.int .i64 k.n,CI k.g,.int .i64 ((CC rhs nm).2.length:Nat)] []).bind _)=_;have h0:∀q,C9 sF 0 39 (CI k.g) q=some (CI k.g,q):=fun q=>by
     rcases Ba k.g with e|⟨_,_,e⟩<;>rw[e]<;>rfl
    have h1:C9.many (C9 sF 0 39) [.int .i64 (f:Nat),pv,.int .i64 k.op,.int .i64 k.n,CI k.g,.int .i64 ((CC rhs nm).2.length:Nat)] []=some ([.int .i64 (f:Nat),CI (Cf ts []).1,.int .i64 k.op,.int .i64 k.n,CI k.g,.int .i64 ((CC rhs nm).2.length:Nat)],bs):=by
     simp only[C9.many,show∀n q,C9 sF 0 39 (.int .i64 n) q=some (.int .i64 n,q)from fun _ _=>rfl,hz,h0,Qe,List.append_nil]
    rw[h1];rfl
   have hrule:YA c.b c.c (f:Nat) ts (YG l l.length) rhs=some ⟨(f:Nat),(Cf ts []).1,(CC rhs nm).1,((CC rhs nm).2.length:Nat)⟩:=by
    have Zc:(Cf ts []).1.all (Xt c.b c.c)=true:=List.all_eq_true.2 fun u hu=>by
     obtain⟨j,hj,rfl⟩:=List.mem_iff_getElem.1 hu;have hj2:j<ts.length:=by rwa[BU]at hj
     have:=(Ya j hj2 hj2).2;rwa[<-Jv hj2 (h':=hj)]at this
    unfold YA;rw[hnP,<-lU,if_pos ⟨hg.1,by rw[hk];have:=hg.2;rwa[hk]at this,Zc⟩]
   have jn:=hR _ hrule (s.G (q_ sF bs)) (CL.u (CL.I cF mH (Qj _))) fun hb=>Ch.u lF.I hb;unfold W3 at jn;rw[hk]at jn;refine Se ?_;exact AC ⟨.inl U,_,rfl,[.O [.int .i64 (f:Nat),pv,.int .i64 k.op,.int .i64 k.n,CI k.g,.int .i64 ((CC rhs nm).2.length:Nat)]],BZ U U U gF (Qj _) U,_,GV (by kernel_rfl) (List.ne_nil_of_mem mF) rK (fun y hy=>by rw[cF.a];exact mH y hy),jn⟩
end Go.Proofs.YtpihdbhocgcbpaaGreatDoor.Wy
open Go Am
namespace Am
variable {ks:List Nat} {x:Operand} {t:TypeId}
section
variable {E : c_} {fr : Fr} {l : Sl} {st : St} {o : Oper} {all rest : List Oper} {i : Nat} {js : List Nat} {nl : WG} {K : Sl -> St -> Prop} {od : Option Nat} {KN : PN}
theorem OG {k e:TypeId} (ho:o.op= .makeMap t none) (hu:Wb E t=some (.map k e)) (hg:o.guard=none) (hd:o.dst=od) (C5:Wz fr.nt od=true)
 (h:Cz E KN all rest (i+1) fr (WX od (.bW st.a) l) (st.g (.Y [] 0)) js ((i,st.a)::nl) K):Cz E KN all (o::rest) i fr l st js nl K:=
 Hy (f:=fun _=>some (.J (.Y [] 0) .bW)) (g:= .bW) (by
  rw[ho];show bw E t none=_;unfold bw;rw[hu]) (fun _ _=>rfl) (.inl hg) hd C5 h
theorem Cz.box {v:AV} (ho:o.op= .box t x) (hx:Cg x (CW (b_ o.op.operands.toList) l)=some v) (hv:v.u=false) (hg:o.guard=none) (hd:o.dst=od) (C5:Wz fr.nt od=true)
 (h:Cz E KN all rest (i+1) fr (WX od (.J st.a 0) l) (st.g (.J v.g t false)) js ((i,st.a)::nl) K):Cz E KN all (o::rest) i fr l st js nl K:=
 Hy (f:=fun T=>(Ci E x T).bind fun v=>bif v.u then none else some (.J (.J v.g t false) fun b=> .J b 0)) (g:=fun b=> .J b 0) (by rw[ho];rfl) (fun T hT=>by
  simp only[Ae hT hx,Qe,hv,cond_false]) (.inl hg) hd C5 h
end
theorem Fy {E:c_} {f:FuncId} {v w:AV} {s st:St} (hf:E.g f=1) (hl:st.d=[]) (hz:C9 st s.a 40 v []=some (w,ks)) (hk:∀b∈ks,st.c<=b) (hu:CD s.a 40 w=true):k9 E f s v st=some (.J w):=by
 unfold k9 qT;rw[hf];simp only;rw[hl];show((Wa s.a v st).bind _)=_;unfold Wa;rw[hz];simp only[Qe];have bJ:(q_ st ks).d=[]:=by
  rw[<-hl];clear hz hl;revert st;induction ks with
  |nil=>intro st _;rfl
  |cons b ks ih=>
   intro st hk;have hb:(st.z b none).d=st.d:=by
    show(bif Nat.blt b st.c then _ else st.d)=_;have:Nat.blt b st.c=false:=by
     cases h:Nat.blt b st.c with
     |false=>rfl
     |true=>
      have h2:b<st.c:=Qc h;have:=hk b (Qh ..);omega
    rw[this];rfl
   show(q_ (st.z b none) ks).d=_;rw[ih (st:=st.z b none) fun c hc=>hk c (Qg _ hc)];exact hb
 rw[bJ];show some (bif CD s.a 40 w then _ else _)=_;rw[hu];rfl
end Am
namespace Go.Proofs.YtpihdbhocgcbpaaGreatDoor.Wy
variable {e:Int} {S:List Int} {y:Nat} {t:Z0} {q:eB} {r:jN}
theorem zk {c:Cj} {s:Z0} {a b:jN} (h:bh c s a):bh c s b->a=b:=by
 induction h with
 |Y h1 _ ih=>exact fun h2=>ih (h2.u h1)
 |O h1=>exact fun h2=>(h2.z h1).symm
 |J h1=>exact fun h2=>(h2.g h1).symm
open Classical in
noncomputable def zm (c:Cj) (s:Z0):jN:=if h:∃r,bh c s r then h.choose else .J 0
theorem Pu {c:Cj} {s:Z0} (h:bh c s r):zm c s=r:=by
 have he:∃r,bh c s r:=⟨r,h⟩
 unfold zm;rw[dif_pos he];exact zk he.choose_spec h
open Classical in
noncomputable def W9 (l:List C8) (r:Nat):Zz:=if h:∃t,Is l t r then h.choose else .O 0
theorem Ez {l:List C8} (WO:Yf l) {r:Nat} (h:r<l.length):Is l (W9 l r) r:=by
 have he:=is_reg WO h;unfold W9;rw[dif_pos he];exact he.choose_spec
def Y5:eB:=⟨0,[],.mk 0 0 [],0⟩
def bO (c:Cj) (f:Nat) (Cc:List Int):Z0:=⟨(c.d.getD f 0).toNat,List.replicate (g_ c.c f).toNat C8.g,Cc⟩
noncomputable def ry (c:Cj) (f:Nat) (t:Z0):eB×Int:=
 match YA c.b c.c (f:Nat) ((List.range (g_ c.c f).toNat).map (W9 t.b)) (YG t.b t.b.length) (W9 t.b (Y6 c t.a).a.toNat)with
 |some q=>(q,0)
 |none=>(Y5,3)
noncomputable def dB (c:Cj) (f:Int) (Cc:List Int):eB×Int:=
 if X5 c=true/\0<=f/\f<c.c.length then(match WI c with
  |none=>(Y5,7)
  |some _=>match zm c (bO c f.toNat Cc)with
   | .J e=>(Y5,e)
   | .O t=>ry c f.toNat t)
 else(Y5,2)
noncomputable def ZU (c:Cj) (f:Int) (Cc:List Int):AV:= .Y [.O (W3 (dB c f Cc).1),.int .i64 (dB c f Cc).2]
theorem G1 {c:Cj} (h:WI c=some S):oN c S:=by
 unfold WI at h;split at h
 .next h2=>cases h;exact h2.choose_spec
 .cases h
theorem I2 {c:Cj} {f:Nat} {Cc:List Int} (hc:ZT c) (hS:oN c S) (hf:f<c.c.length):gQ c S (bO c f Cc):=by
 have uF:f<c.d.length:=by rw[hc.J];exact hf
 have h1:=hc.u uF;have h2:=hS.b f uF;have h3:=Ga hc.B f;refine⟨?_,?_,fun i hi=>?_,?_⟩
 .show(c.d.getD f 0).toNat<_;rw[Ao uF];omega
 .show oA S (c.d.getD f 0).toNat=((List.replicate (g_ c.c f).toNat C8.g).length:Nat)
  rw[h2,List.length_replicate];omega
 .have hi:i<(List.replicate (g_ c.c f).toNat C8.g).length:=hi;show tY (List.replicate _ _) i ((List.replicate (g_ c.c f).toNat C8.g)[i]);rw[List.getElem_replicate];exact Uy _ _
 .show(List.replicate _ _).length<=60;rw[List.length_replicate];omega
theorem Ph {c:Cj} {s s':Z0} (h:Xh c s= .Y s'):s.b.length<=s'.b.length:=by
 unfold Xh at h;simp only at h;split at h
 .split at h
  .cases h
  .split at h
   .cases h
   .split at h
    .cases h
    .cases h;show _<=(List.set _ _ _++_).length;rw[Qm,List.length_set];omega
 .split at h
  .split at h
   .cases h
   .split at h
    .cases h;exact Qj _
    .cases h
  .split at h
   .cases h
   .split at h
    .cases h;show s.b.length<=(s.b++_).length;rw[Qm];omega
    .split at h
     .cases h;show s.b.length<=(s.b++_).length;rw[Qm];omega
     .split at h<;>cases h
theorem H9 {c:Cj} {s:Z0} (h:bh c s r) (he:r= .O t):s.b.length<=t.b.length:=by
 induction h with
 |Y h1 h2 ih=>exact Nat.le_trans (Ph h1) (ih he)
 |O h1=>cases he;exact Qj _
 |J h1=>cases he
theorem HO {c:Cj} (hc:ZT c) (hk:t.a<c.a.length) (h:Xh c t= .O):(Y6 c t.a).op=6:=by
 have W6:=hc.g hk;rw[<-B2 hk]at W6;unfold Xh at h;simp only at h;generalize Y6 c t.a=x at*;split at h
 .split at h
  .cases h
  .split at h
   .cases h
   .split at h<;>cases h
 .split at h
  .split at h
   .cases h
   .split at h<;>cases h
  .split at h
   .cases h
   .split at h
    .cases h
    .split at h
     .cases h
     .by_cases h6:x.op=6
      .exact h6
      .rw[Ri (by omega)]at W6;cases W6
section
variable {s : St} {c : Cj} {f : Int} {Cc : List Int}
structure zn (s sA:St) (c:Cj):Prop where
 a:sA.a=s.a+3
 g:CL s.u sA (fun _=>False)
 i:sA.d=[]
 b:sA.c=s.a
 d:sA.b.g s.a=some (.J (CJ c) 28 false)
 e:sA.b.g (s.a+1)=some (.J [.int .i64 0,.Ca,.int .i64 0,.int .i64 0,.Ca,.int .i64 0] 41 false)
 f:sA.b.g (s.a+2)=some (.J [.int .i64 0] 31 false)
theorem wayB:zn s (((s.u.g (.J (CJ c) 28 false)).g (.J [.int .i64 0,.Ca,.int .i64 0,.int .i64 0,.Ca,.int .i64 0] 41 false)).g (.J [.int .i64 0] 31 false)) c where
 a:=rfl
 g:=(CL.z.g CL.z (own:=fun _=>False) (o2:=fun _=>False) (fun _ h=>h) (fun _ h=> .inl h) (Qj _)).g CL.z (o2:=fun _=>False) (fun _ h=>h) (fun _ h=> .inl h) (Qj _)
 i:=rfl
 b:=rfl
 d:=(Ap (show s.a<s.a+2 by omega)).trans ((Ap (show s.a<s.a+1 by omega)).trans Ax)
 e:=(Ap (show s.a+1<s.a+2 by omega)).trans Ax
 f:=Ax
theorem Pb {l:Sl} {sF:St} (h6:Am.d_ 6 l=some (.J (s.a+1) 0)) (h7:Am.d_ 7 l=some (.J (s.a+2) 0)) (g6:sF.b.g (s.a+1)=some (.J (W3 q) 41 false)) (g7:sF.b.g (s.a+2)=some (.J [.int .i64 e] 31 false)) (hl:sF.d=[]):
 ∃vs,CK (EK W1) sF l (Tryz.f16).results.toList=some vs/\∃cr,k9 (EK W1) 16 s (Zi vs) sF=some cr/\match cr with
  | .J v=>v= .Y [.O (W3 q),.int .i64 e]/\s=s
  | .O v s'=>v= .Y [.O (W3 q),.int .i64 e]/\s'=s
  | .Y _ _=>False:=by
 refine⟨[.O (W3 q),.int .i64 e],BZ h6 ag_41 xO g6 (Qj _) (DB h7 ag_31 xN g7 U U),.J (.Y [.O (W3 q),.int .i64 e]),?_,U,U⟩;have h0:∀l2 m n ks,C9 sF m (n+1) (CI l2) ks=some (CI l2,ks):=fun l2 m n ks=>by
  rcases Ba l2 with e|⟨_,_,e⟩<;>rw[e]<;>rfl
 have hu:∀l2 m n,CD m (n+1) (CI l2)=true:=fun l2 m n=>by
  rcases Ba l2 with e|⟨_,_,e⟩<;>rw[e]<;>rfl
 refine Fy (ks:=[]) (by kernel_rfl) hl ?_ (fun b hb=>by cases hb) ?_
 .unfold W3;show((C9.many (C9 sF s.a 39) [.O _,.int .i64 e] []).bind _)=_;have h1:C9.many (C9 sF s.a 38) [.int .i64 q.d,CI q.c,.int .i64 q.a.op,.int .i64 q.a.n,CI q.a.g,.int .i64 q.b] []=some ([.int .i64 q.d,CI q.c,.int .i64 q.a.op,.int .i64 q.a.n,CI q.a.g,.int .i64 q.b],[]):=by
   simp only[C9.many,show∀n q,C9 sF s.a 38 (.int .i64 n) q=some (.int .i64 n,q)from fun _ _=>rfl,h0,Qe]
  have h2:C9 sF s.a 39 (.O [.int .i64 q.d,CI q.c,.int .i64 q.a.op,.int .i64 q.a.n,CI q.a.g,.int .i64 q.b]) []=some (.O [.int .i64 q.d,CI q.c,.int .i64 q.a.op,.int .i64 q.a.n,CI q.a.g,.int .i64 q.b],[]):=by
   show((C9.many (C9 sF s.a 38) [.int .i64 q.d,CI q.c,.int .i64 q.a.op,.int .i64 q.a.n,CI q.a.g,.int .i64 q.b] []).bind _)=_;rw[h1];rfl
  show((((C9 sF s.a 39 (.O _) []).bind _)).bind _)=_;rw[h2];rfl
 .unfold W3;rcases Ba q.c with e1|⟨_,_,e1⟩<;>rcases Ba q.a.g with e2|⟨_,_,e2⟩<;>rw[e1,e2]<;>rfl
theorem BQ {st:St} {o:Option CG} (hy:st.c<=y) (hl:st.d=[]):(st.z y o).d=[]:=by
 cases h:(st.z y o).d with
 |nil=>rfl
 |cons d L=>
  rcases BP (s:=st) (b:=y) (o:=o) (c:=d) (by rw[h];exact Qh ..)with hd|⟨hd,nd⟩
  .rw[hl]at hd;cases hd
  .omega
theorem LZ {sA:St} (hB:zn s sA c) {l:Sl} (h6:Am.d_ 6 l=some (.J (s.a+1) 0)) (h7:Am.d_ 7 l=some (.J (s.a+2) 0)):∃vs,CK (EK W1) ((sA.z (s.a+1) (some (.J [.int .i64 0,.Ca,.int .i64 0,.int .i64 0,.Ca,.int .i64 0] 41 false))).z (s.a+2) (some (.J [.int .i64 e] 31 false))) l (Tryz.f16).results.toList=some vs/\∃cr,k9 (EK W1) 16 s (Zi vs) ((sA.z (s.a+1) (some (.J [.int .i64 0,.Ca,.int .i64 0,.int .i64 0,.Ca,.int .i64 0] 41 false))).z (s.a+2) (some (.J [.int .i64 e] 31 false)))=some cr/\match cr with
 | .J v=>v= .Y [.O (W3 Y5),.int .i64 e]/\s=s
 | .O v s'=>v= .Y [.O (W3 Y5),.int .i64 e]/\s'=s
 | .Y _ _=>False:=Pb h6 h7 ((Ah.trans (if_neg (by omega))).trans (Ah.trans (if_pos rfl))) (Ah.trans (if_pos rfl)) (BQ (by show sA.c<=_;rw[hB.b];omega) (BQ (by rw[hB.b];omega) hB.i))
theorem way_arg (hf:r_ c) (h:¬(X5 c=true/\0<=f/\f<c.c.length)):VX (EK W1) 16 [.O (CJ c),.int .i64 f,Cq CN 1 Cc] s (fun v s'=>v=ZU c f Cc/\s'=s) fun _ _=>False:=by
 have hv:ZU c f Cc= .Y [.O (W3 Y5),.int .i64 2]:=by unfold ZU dB;rw[if_neg h]
 rw[hv];refine Ar U ?_;obtain⟨sA,XP⟩:∃x,x=((s.u.g (.J (CJ c) 28 false)).g (.J [.int .i64 0,.Ca,.int .i64 0,.int .i64 0,.Ca,.int .i64 0] 41 false)).g (.J [.int .i64 0] 31 false):=⟨_,rfl⟩
 have hB:zn s sA c:=by rw[XP];exact wayB
 have g3:=hB.d;have g6:=hB.e;have g7:=hB.f;refine Es<|Lo (BR U U U) U ?_;iterate 2 refine Lo (kz U) U ?_
 refine Ld<|Sq ?_;show Cu _ _ _ _ (((s.u.g (.J (CJ c) 28 false)).g (.J [.int .i64 0,.Ca,.int .i64 0,.int .i64 0,.Ca,.int .i64 0] 41 false)).g (.J [.int .i64 0] 31 false)) _;rw[<-XP];clear XP;refine Cu.sub (l':=[(7,.J (s.a+2) 0),(6,.J (s.a+1) 0),(3,.J s.a 0),(2,Cq CN 1 Cc),(1,.int .i64 f)]) ?_ (Ab (by repeat' constructor));have XM:=hf.g;have g7':(sA.z (s.a+1) (some (.J [.int .i64 0,.Ca,.int .i64 0,.int .i64 0,.Ca,.int .i64 0] 41 false))).b.g (s.a+2)=some (.J [.int .i64 0] 31 false):=(Ah.trans (if_neg (by omega))).trans g7;cases fU:X5 c with
 |false=>
  have D3:=D3 hf;rw[fU]at D3;refine Es<|Lo (kL U g3 U) U ?_;refine Lo (kc U (D3)) U<|Lw U<|Tt U<|Es<|Lv 1 U ?_;iterate 2 refine Ln (kw U ‹_› U) U ?_
  refine Ld<|Se ?_;exact AC ⟨.inl U,_,U,LZ hB U U⟩
 |true=>
  have D3:=D3 hf;rw[fU]at D3;have hlen:c.d.length=c.c.length:=ZT.J ⟨hf,fU⟩;have Yi:X1 f 0 ((c.d.length:Int)-1)=false:=by
   cases h2:X1 f 0 ((c.d.length:Int)-1)with
   |false=>rfl
   |true=>
    have:=VW.1 h2;exact absurd ⟨fU,by omega⟩ h
  focus
   refine Es<|Lo (kL U g3 U) U ?_;refine Lo (kc U (D3)) U<|Lv 4 U<|Lg U U (kl U g3 U)<|Lv 1 U<|Lh U U (ks U (by omega)) ?_;refine Lg U U (kc U (Ff))<|Lw U ?_;refine Cn U (fun h8=>?_) (fun h8=>?_);refine Es<|Lv 1 U ?_;iterate 2 refine Ln (kw U ‹_› U) U ?_
   refine Ld ?_;rotate_left;refine Sk<|Sq<|Es<|Lo (kL U g3 U) U ?_;rotate_left
  .refine Se ?_;exact AC ⟨.inl U,_,U,LZ hB U U⟩
  .rw[Yi]at h8;cases h8
theorem RD {f:Nat} (hc:ZT c) (jF:f<c.c.length) (hb:WI c=none):VX (EK W1) 16 [.O (CJ c),.int .i64 (f:Nat),Cq CN 1 Cc] s (fun v s'=>v=ZU c (f:Nat) Cc/\s'=s) fun _ _=>False:=by
 have hv:ZU c (f:Nat) Cc= .Y [.O (W3 Y5),.int .i64 7]:=by unfold ZU dB;rw[if_pos ⟨hc.b,by omega,by omega⟩,hb]
 rw[hv];refine Ar U ?_;obtain⟨sA,XP⟩:∃x,x=((s.u.g (.J (CJ c) 28 false)).g (.J [.int .i64 0,.Ca,.int .i64 0,.int .i64 0,.Ca,.int .i64 0] 41 false)).g (.J [.int .i64 0] 31 false):=⟨_,rfl⟩
 have hB:zn s sA c:=by rw[XP];exact wayB
 have g3:=hB.d;have g6:=hB.e;have g7:=hB.f;refine Es<|Lo (BR U U U) U ?_;iterate 2 refine Lo (kz U) U ?_
 refine Ld<|Sq ?_;show Cu _ _ _ _ (((s.u.g (.J (CJ c) 28 false)).g (.J [.int .i64 0,.Ca,.int .i64 0,.int .i64 0,.Ca,.int .i64 0] 41 false)).g (.J [.int .i64 0] 31 false)) _;rw[<-XP];clear XP;refine Cu.sub (l':=[(7,.J (s.a+2) 0),(6,.J (s.a+1) 0),(3,.J s.a 0),(2,Cq CN 1 Cc),(1,.int .i64 (f:Nat))]) ?_ (Ab (by repeat' constructor));have hf:=hc.a;have XM:=hf.g;have g7':(sA.z (s.a+1) (some (.J [.int .i64 0,.Ca,.int .i64 0,.int .i64 0,.Ca,.int .i64 0] 41 false))).b.g (s.a+2)=some (.J [.int .i64 0] 31 false):=(Ah.trans (if_neg (by omega))).trans g7;have D3:=D3 hf;rw[hc.b]at D3;have hlen:=hc.J;have Yi:X1 (f:Nat) 0 ((c.d.length-1:Nat):Int)=true:=VW.2 (by omega);have Gm:=Gm hc;have zi:W4 c= .Y [.Ca,.bool false]:=by unfold W4;rw[hb]
 rw[zi]at Gm;focus
  refine Es<|Lo (kL U g3 U) U ?_;refine Lo (kc U (D3)) U<|Lv 4 U<|Lg U U (kl U g3 U)<|Lv 1 U<|Lh U U (Bj (b:=1) U ey U U (by omega)) ?_;refine Lg U U (kc U (Ff))<|Lw U ?_;refine Cn U (fun h8=>?_) (fun h8=>?_);refine Es<|Lv 1 U ?_;iterate 2 refine Ln (kw U ‹_› U) U ?_
  refine Ld ?_;rotate_left;refine Sk<|Sq<|Es<|Lo (kL U g3 U) U ?_;refine Lo (kc U (Gm)) U<|Lw U<|Ew U<|Tt U<|Es<|Lv 1 U ?_;iterate 2 refine Ln (kw U ‹_› U) U ?_
  refine Ld ?_;rotate_left
 .rw[Yi]at h8;cases h8
 .refine Se ?_;exact AC ⟨.inl U,_,U,LZ hB U U⟩
theorem RJ {c:Cj} {s s':Z0} (h:Xh c s= .Y s'):s'.c.length<=s.c.length:=by
 unfold Xh at h;simp only at h;split at h
 .split at h
  .cases h
  .split at h
   .cases h
   .next p ps hp=>
    split at h
    .cases h
    .cases h;rw[hp];exact Nat.le_succ _
 .split at h
  .split at h
   .cases h
   .next p ps hp=>
    split at h
    .cases h;rw[hp];exact Nat.le_succ _
    .cases h
  .split at h
   .cases h
   .split at h
    .cases h;exact Qj _
    .split at h
     .cases h;exact Qj _
     .split at h<;>cases h
theorem Tv {f:Nat} {fr:Fr} {l:Sl} {st:St} (hd:fr.defers=[{a:= .O (.func 39) [.J (s.a+1) 0,.J (s.a+2) 0],args:=[]}]) (h6:Am.d_ 6 l=some (.J (s.a+1) 0)) (h7:Am.d_ 7 l=some (.J (s.a+2) 0)) (hb:st.c=s.a) (hn:s.a+5<=st.a) (Yc:st.d=[])
 (g6:st.b.g (s.a+1)=some (.J [.int .i64 0,.Ca,.int .i64 0,.int .i64 0,.Ca,.int .i64 0] 41 false)) (g7:st.b.g (s.a+2)=some (.J [.int .i64 0] 31 false)) (hv:dB c (f:Nat) Cc=(Y5,e)):
 qc (EK W1) 16 (Tryz.f16).results.toList s (fun v s'=>v=ZU c (f:Nat) Cc/\s'=s) (fun _ _=>False) (.O (bN e)) fr l st:=by
 have hvA:ZU c (f:Nat) Cc= .Y [.O (W3 Y5),.int .i64 e]:=by unfold ZU;rw[hv]
 rw[hvA];refine⟨some (bN e),39,_,_,Tryz.f39,_,U,hd,by kernel_rfl,U,U,?_⟩;refine FD U U U U U U U U ?_;unfold bN;obtain⟨a1,a2,a3,a4,a5,a6,a7⟩:=AU (st:=st) (z:=[.int .i64 0]) (cs:=[.int .i64 e]) (T:=82);have a2k:=fun(_:True)=>a2;clear a2;refine Sb<|Es<|Lq (D7 (neg:=false) U if_20 U U U) U<|Ld<|Tf U<|Ew U<|Tt U<|Es<|Lo (kz U) U<|Ln (kw U a1 U) U<|Ld<|AK (by kernel_rfl)<|Nv 2 U ?_;have a2:=a2k trivial;clear a2k;refine Cz.named fun sC dG=>?_;have gC3:sC.b.g st.a=some (.J [.int .i64 e] 82 false):=by rw[dG];exact a2
 have gC6:sC.b.g (s.a+1)=some (.J [.int .i64 0,.Ca,.int .i64 0,.int .i64 0,.Ca,.int .i64 0] 41 false):=by rw[dG];exact(a4 (s.a+1) (by omega)).trans g6
 have gC7:sC.b.g (s.a+2)=some (.J [.int .i64 0] 31 false):=by rw[dG];exact(a4 (s.a+2) (by omega)).trans g7
 have nC:sC.a=st.a+1:=by rw[dG];exact a7
 have bC:sC.c=s.a:=by rw[dG];exact a5.trans hb
 have lC:sC.d=[]:=by
  have h:=Yc;rw[<-a6 (by omega)]at h;rw[dG];exact h
 clear dG a1 a2 a3 a4 a5 a6 a7;refine Dl U ag_31 xN U gC3 U (PS e) U U (.inl U) U U ?_
 skip
 refine Ea (by omega) U xO U U gC6 U U U U (J6 (by kernel_rfl)) (fun z hz=>by rw[Qp.1 hz];exact .inr (by show st.a≠s.a+1;omega)) (.inl U) U U ?_;refine Cz.named fun sD ix=>?_;replace ix:sD=bj sC (s.a+1) (some (.J (W3 Y5) 41 false)):=ix;have gD7:sD.b.g (s.a+2)=some (.J [.int .i64 0] 31 false):=by rw[ix];exact(VY.trans (if_neg (by omega))).trans gC7
 have nD:sD.a=sC.a:=by rw[ix];rfl
 skip
 refine Ea (by omega) U xN U U gD7 U U U (AH (by kernel_rfl)) (J6 (by kernel_rfl)) (fun z hz=>by rw[Qp.1 hz];exact .inr (by show st.a≠s.a+2;omega)) (.inl U) U U ?_;refine Cz.named fun sE oW=>?_;replace oW:sE=bj sD (s.a+2) (some (.J [.int .i64 e] 31 false)):=oW;have g6E:sE.b.g (s.a+1)=some (.J (W3 Y5) 41 false):=by rw[oW];exact(VY.trans (if_neg (by omega))).trans (by rw[ix];exact VY.trans (if_pos rfl))
 have g7E:sE.b.g (s.a+2)=some (.J [.int .i64 e] 31 false):=by rw[oW];exact VY.trans (if_pos rfl)
 have lE:sE.d=[]:=List.eq_nil_iff_forall_not_mem.2 fun y hy=>by
  rw[oW]at hy;rcases fG.1 hy with⟨h1,h2⟩|h
  .rw[show sD.c=s.a by rw[ix];exact bC]at h2;omega
  .rw[ix]at h;rcases fG.1 h with⟨h1,h2⟩|h
   .omega
   .rw[lC]at h;cases h
 clear ix oW;refine Cz.done ?_;refine⟨.inl U,U,?_⟩;exact Pb h6 h7 g6E g7E lE
theorem way_ret {f:Nat} {fr:Fr} {l:Sl} {st:St} (hd:fr.defers=[{a:= .O (.func 39) [.J (s.a+1) 0,.J (s.a+2) 0],args:=[]}]) (h6:Am.d_ 6 l=some (.J (s.a+1) 0)) (h7:Am.d_ 7 l=some (.J (s.a+2) 0)) (Yc:st.d=[])
 (g6:st.b.g (s.a+1)=some (.J (W3 q) 41 false)) (g7:st.b.g (s.a+2)=some (.J [.int .i64 0] 31 false)) (hv:dB c (f:Nat) Cc=(q,0)):
 qc (EK W1) 16 (Tryz.f16).results.toList s (fun v s'=>v=ZU c (f:Nat) Cc/\s'=s) (fun _ _=>False) .Y fr l st:=by
 have hvA:ZU c (f:Nat) Cc= .Y [.O (W3 q),.int .i64 0]:=by unfold ZU;rw[hv]
 rw[hvA];refine⟨none,39,_,_,Tryz.f39,_,U,hd,by kernel_rfl,U,U,?_⟩;refine FD U U U U U U U U<|Sb<|Es<|Lq (D7 (neg:=false) U if_20 U U U) U<|Ld<|Tt U<|Sr<|Lw U ?_;refine⟨.inl U,U,?_⟩;exact Pb h6 h7 g6 g7 Yc
theorem zo {f:Nat} (hc:ZT c) (jF:f<c.c.length) (hb:WI c=some S) (pX:Cc.length<=4000):VX (EK W1) 16 [.O (CJ c),.int .i64 (f:Nat),Cq CN 1 Cc] s (fun v s'=>v=ZU c (f:Nat) Cc/\s'=s) fun _ _=>False:=by
 have hS:=G1 hb;have hv:dB c (f:Nat) Cc=match zm c (bO c f Cc)with
  | .J e=>(Y5,e)
  | .O t=>ry c f t:=by
  unfold dB;rw[if_pos ⟨hc.b,by omega,by omega⟩,hb];rfl
 have WO:=I2 (Cc:=Cc) hc hS jF;obtain⟨res,aA⟩:=QP hc hS _ _ WO (Qj _);rw[Pu aA]at hv;refine VX.putOff (fn:=Tryz.f16) U (by kernel_rfl) U U U U ?_;obtain⟨sA,XP⟩:∃x,x=((s.u.g (.J (CJ c) 28 false)).g (.J [.int .i64 0,.Ca,.int .i64 0,.int .i64 0,.Ca,.int .i64 0] 41 false)).g (.J [.int .i64 0] 31 false):=⟨_,rfl⟩
 have hB:zn s sA c:=by rw[XP];exact wayB
 have g3:=hB.d;have g6:=hB.e;have g7:=hB.f;refine Es<|Lo (BR U U U) U ?_;iterate 2 refine Lo (kz U) U ?_
 refine Ld<|Sq ?_;show Cu _ _ _ _ (((s.u.g (.J (CJ c) 28 false)).g (.J [.int .i64 0,.Ca,.int .i64 0,.int .i64 0,.Ca,.int .i64 0] 41 false)).g (.J [.int .i64 0] 31 false)) _;rw[<-XP];clear XP;refine Cu.sub (l':=[(7,.J (s.a+2) 0),(6,.J (s.a+1) 0),(3,.J s.a 0),(2,Cq CN 1 Cc),(1,.int .i64 (f:Nat))]) ?_ (Ab (by repeat' constructor));have hf:=hc.a;have XM:=hf.g;have g7':(sA.z (s.a+1) (some (.J [.int .i64 0,.Ca,.int .i64 0,.int .i64 0,.Ca,.int .i64 0] 41 false))).b.g (s.a+2)=some (.J [.int .i64 0] 31 false):=(Ah.trans (if_neg (by omega))).trans g7;have D3:=D3 hf;rw[hc.b]at D3;have hlen:=hc.J;have Yi:X1 (f:Nat) 0 ((c.d.length-1:Nat):Int)=true:=VW.2 (by omega);have Gm:=Gm hc;have zi:W4 c= .Y [bH (zs S) S.length 1,.bool true]:=by unfold W4;rw[hb]
 rw[zi]at Gm;focus
  refine Es<|Lo (kL U g3 U) U ?_;refine Lo (kc U (D3)) U<|Lv 4 U<|Lg U U (kl U g3 U)<|Lv 1 U<|Lh U U (Bj (b:=1) U ey U U (by omega)) ?_;refine Lg U U (kc U (Ff))<|Lw U ?_;refine Cb U (fun g8=>?_) (fun g8=>?_);have h8:=HF g8;refine Es<|Lv 1 U ?_;iterate 2 refine Ln (kw U ‹_› U) U ?_
  refine Ld ?_;rotate_left;have h8:=HG g8;refine Sk<|Sq<|Es<|Lo (kL U g3 U) U ?_;refine Lo (kc U (Gm)) U<|Lw U<|Ew U<|Tf U<|Sk ?_;rotate_left
 .rw[Yi]at h8;cases h8
 refine Cu.sub (l':=[(7,.J (s.a+2) 0),(6,.J (s.a+1) 0),(3,.J s.a 0),(2,Cq CN 1 Cc),(1,.int .i64 (f:Nat))]) ?_ (Ab (by repeat' constructor));refine KF U (kq U) U U U U U U U U U U ?_;have uF:f<c.d.length:=by omega
 have uf:=Af AD uF;have hst0:=hc.u uF;obtain⟨tZ,sx⟩:∃tZ:Nat,c.d[f]=tZ:=⟨c.d[f].toNat,by omega⟩
 rw[sx]at uf;have q7:=Af Av jF;have uC:=hc.B _ (Ql jF);obtain⟨ar,eM⟩:∃ar:Nat,c.c[f].2=ar:=⟨c.c[f].2.toNat,by omega⟩
 unfold Ok at q7;rw[eM]at q7 uC;refine Ad (by kernel_rfl)<|NM U g3 U (.inl U) U<|Nv 1 U<|Nm U g3 U (.inl U) U<|Nv 1 U<|Nq (kv U uf) U<|Nv 2 U<|OG U OZ U U U<|Nv 1 U<|Cz.box U U U U U U<|Nw U ?_;refine Cu.sub (l':=[(10,.J (sA.a+1) 0),(7,.J (s.a+2) 0),(6,.J (s.a+1) 0),(3,.J s.a 0),(2,Cq CN 1 Cc),(1,.int .i64 (f:Nat))]) ?_ (Ab (by repeat' constructor));refine Az fun sB YP=>?_;have nB:sB.a=s.a+5:=by rw[YP];show sA.a+1+1=_;rw[hB.a]
 have gw:sB.b.g (s.a+4)=some (.J (cT c tZ .Ca Cc (s.a+3) 0) 87 false):=by rw[YP,show s.a+4=sA.a+1 by rw[hB.a]];rw[show s.a+3=sA.a from hB.a.symm];exact Ax
 have gm:sB.b.g (s.a+3)=some (.Y [] 0):=by rw[YP,show s.a+3=sA.a from hB.a.symm];exact(Ap (Nat.lt_succ_self _)).trans Ax
 have oB:∀y,y<s.a+3->sB.b.g y=sA.b.g y:=fun y hy=>by rw[YP];exact(Ap (show y<sA.a+1 by rw[hB.a];omega)).trans (Ap (by rw[hB.a];exact hy))
 have bB:sB.c=s.a:=by rw[YP];exact hB.b
 have lB:sB.d=[]:=by rw[YP];exact hB.i
 have g3B:=(oB s.a (by omega)).trans g3;have g6B:=(oB (s.a+1) (by omega)).trans g6;have g7B:=(oB (s.a+2) (by omega)).trans g7;clear YP;have q9:sB.c<=sB.a:=by omega
 rw[show sA.a+1=s.a+4 by rw[hB.a]];have wB:YQ sB (s.a+4) c tZ .Ca Cc (s.a+3) 0:=⟨gw,by omega⟩
 have rB:YF sB 161 c9 .Ca [] []:=⟨rfl,a_.nil _ _ _,fun i h=>absurd h (Nat.not_lt_zero _)⟩
 have hsw:bO c f Cc=⟨tZ,List.replicate ar C8.g,Cc⟩:=by
  unfold bO g_;rw[Ao uF,sx,Int.toNat_natCast,Int.toNat_natCast,Ao jF,eM];rfl
 refine B0 (DG (fun x:AV×List AV×St=>([(10,.J (s.a+4) 0),(7,.J (s.a+2) 0),(6,.J (s.a+1) 0),(1,.int .i64 (f:Nat))],x.2.2)) (fun x=>YQ x.2.2 (s.a+4) c tZ x.1 Cc (s.a+3) 0/\YF x.2.2 161 c9 x.1 (List.replicate ar C8.g) x.2.1/\CL sB x.2.2 (fun y=>s.a+4<=y)/\∀y,CB y x.1=true->s.a+5<=y) ?_ ?_)
 .by_cases h0:ar=0
  .subst h0;refine Sr<|Lv 3 U<|Lo (kl U g3B U) U<|qm U<|Lq (kv U q7) U<|Lv 2 U<|Lq (Dn U s8 G8 LG Pa U U U) U ?_;refine An U U (by kernel_rfl) U U U U (FJ (new:=[]) wB rB U (fun p hp=>by cases hp) (by decide) fun s3 v3 c3 w3 r3 o3 l3=>?_);refine Ld ?_;exact⟨rfl,(v3,[],s3),⟨w3,r3,FY c3 fun y hy=>hy.elim (fun h=>by omega) (fun h=>by cases h),fun y hy=>(o3 y hy).elim (fun h=>by cases h) fun h=>by omega⟩,rfl,Ab (by repeat' constructor)⟩
  .refine Sr ?_;refine Lv 3 U<|Lo (kl U g3B U) U<|qm U<|Lq (kv U q7) U<|Lv 2 U<|Lo (D8 U s8 G8 LG Pa U U U h0 (A3 (by omega) (by decide))) U ?_;refine CA.named fun sM jk=>?_;have cM:CL sB sM (fun y=>s.a+4<=y):=by rw[jk];exact CL.z
   have hM:∀d,d<sB.a->sM.b.g d=sB.b.g d:=fun d hd=>by rw[jk];exact Ap hd
   have hyM:CY sM 6 (.Z sB.a 0 ar 6 (some ar))=some ((List.replicate ar (C8.g,AV.Ca)).flatMap (Ct c9),(List.replicate ar (C8.g,AV.Ca)).length):=by
    rw[jk,List.length_replicate,<-E1 (x:=(C8.g,.Ca)) rfl];exact Iu Ax (by rw[E1 (x:=(C8.g,.Ca)) U,AR (fun _=>rfl),List.length_replicate])
   clear jk;have nM:=cM.d;refine An U U (by kernel_rfl) U U U U (FJ (new:=List.replicate ar (C8.g,.Ca)) (wB.CQ nM (hM _ wB.2)) (rB.g nM fun d hd _=>hM d hd) hyM (fun p hp=>by rw[List.eq_of_mem_replicate hp];exact⟨.inr (a_.nil _ _ _),fun _=>a_.nil _ _ _⟩) (by rw[List.length_replicate];show 0+ar<=4000;omega) fun s3 v3 c3 w3 r3 o3 l3=>?_);have r4:=r3;rw[List.map_replicate]at r4;refine Ld ?_;exact⟨rfl,(v3,_,s3),⟨w3,r4,cM.g c3 (fun _ h=>h) (fun y hy=>hy.elim (fun h=> .inl (by omega)) (fun h=>by cases h)) q9,fun y hy=>(o3 y hy).elim (fun h=>by cases h) fun h=>by omega⟩,rfl,Ab (by repeat' constructor)⟩
 rintro⟨v1,la1,s1⟩ ⟨w1,r1,c1,o1⟩;dsimp only at w1 r1 c1 o1|-;rw[hsw]at aA WO;refine Sq<|Sb ?_;refine Ai (fun x:Z0×AV×List AV×St=>([(10,.J (s.a+4) 0),(7,.J (s.a+2) 0),(6,.J (s.a+1) 0),(1,.int .i64 (f:Nat))],x.2.2.2)) (fun x=>c.a.length-x.1.a)
  (fun x=>bh c x.1 res/\gQ c S x.1/\x.1.c.length<=Cc.length/\YQ x.2.2.2 (s.a+4) c x.1.a x.2.1 x.1.c (s.a+3) 0/\YF x.2.2.2 161 c9 x.2.1 x.1.b x.2.2.1/\CL sB x.2.2.2 (fun y=>s.a+4<=y)/\∀y,CB y x.2.1=true->s.a+5<=y)
  (⟨tZ,List.replicate ar C8.g,Cc⟩,v1,la1,s1) ⟨aA,WO,Qj _,w1,r1,c1,o1⟩ rfl (Ab (by repeat' constructor)) ?_
 rintro⟨⟨ZX,l,pk⟩,v,la,st⟩ ⟨CF,en,qn,hw,hr,ed,zp⟩;dsimp only at CF en qn hw hr ed zp|-;have nI:=ed.d;have Z6:∀y,y<s.a+4->st.b.g y=sB.b.g y:=fun y hy=>ed.b y (by omega) (by omega);have Yc:st.d=[]:=List.eq_nil_iff_forall_not_mem.2 fun y hy=>by
  rcases ed.e y hy with h|⟨h,h2⟩
  .rw[lB]at h;cases h
  .omega
 have uH:st.c<=st.a:=by rw[ed.a];omega
 refine Sq<|Es<|qm U ?_;refine An U U (by kernel_rfl) U U U U (yW hc hS en hw hr (by omega) (fun t he s' v' la' c2 w2 r2 o2 l2=>?_) (fun he s' c2 l2=>?_) fun e he s' c2 l2=>?_)
 .refine Ld ?_;refine Tt U<|Sk<|Sb<|Sk ?_;obtain⟨q1,q2⟩:=EJ hc hS en he;refine⟨(t,v',la',s'),⟨CF.u he,q2,Nat.le_trans (RJ he) qn,w2,r2,ed.g c2 (fun _ h=>h) (fun y hy=>hy.elim (fun h=> .inl (by omega)) fun h=> .inl (by have:=zp y h;omega)) q9,fun y hy=>(o2 y hy).elim (zp y) fun h=>by omega⟩,?_,rfl,rfl,Ab (by repeat' constructor)⟩;have:=q2.b;show c.a.length-t.a<c.a.length-ZX;have:ZX<t.a:=q1;omega
 .have zq:=CF.z he;subst zq;dsimp only at hv;have kG:=ed.g c2 (fun _ h=>h) (fun _ h=>h.elim) q9;have hfr2:∀y,y<s.a+4->s'.b.g y=sB.b.g y:=fun y hy=>kG.b y (by omega) (by omega);have uj:iy s' (s.a+4) c ZX v pk (s.a+3) 0 [] l la:=⟨hw.CQ c2.d (c2.b _ hw.2 id),hr.g c2.d fun d hd _=>c2.b d hd id,⟨(hfr2 _ (by omega)).trans gm,by have:=kG.d;omega⟩⟩
  have fp:ZX<c.a.length:=en.b;have XB:=HO hc fp he;have lj:Y6 c ZX=c.a[ZX]:=B2 fp;rw[show(⟨ZX,l,pk⟩:Z0).a=ZX from rfl,lj]at XB;have W6:=hc.g fp;have hshS:=AY c ZX c.a[ZX];rw[W6]at hshS;obtain⟨j1,j2,j3,j4,j5,j6⟩:=FG (x:=c.a[ZX]);have tp:CO c.a[ZX]= .J c.a[ZX].a:=by
   rcases hq:CO c.a[ZX]with⟨r,al⟩|to|_|_|⟨o,n',zl⟩|r|_
   .have:=(j1 r al hq).1;omega
   .have:=(j2 to hq).1;omega
   .have:=j3 hq;omega
   .have:=j4 hq;omega
   .have:=(j5 _ _ _ hq).1;omega
   .rw[(j6 r hq).2]
   .rw[hq]at hshS;cases hshS
  rw[Ob XB]at W6;simp only[Qf]at W6;have ha:=VW.1 W6.2.2.2;have h0:0<=oA S ZX:=by rw[show oA S ZX=(l.length:Nat)from en.a];exact Int.natCast_nonneg _
  have Xd:=hS.a ZX fp h0;rw[lj,show oA S ZX=(l.length:Nat)from en.a]at Xd;unfold XO at Xd;rw[if_pos (.inr XB)]at Xd;have fq:=dT Xd;obtain⟨r,vK⟩:∃r:Nat,c.a[ZX].a=r:=⟨c.a[ZX].a.toNat,by omega⟩
  rw[vK]at tp fq;have ql:r<l.length:=by omega
  have im:Yf l:=en.d;have harl:ar<=l.length:=by
   have:=H9 aA rfl;rw[List.length_replicate]at this;exact this
  have fT:((List.range ar).map (W9 l)).length=ar:=by rw[Qn,List.length_range]
  have YM:ry c f ⟨ZX,l,pk⟩=match YA c.b c.c (f:Nat) ((List.range ar).map (W9 l)) (YG l l.length) (W9 l r)with
   |some q=>(q,0)
   |none=>(Y5,3):=by
   unfold ry g_;rw[Int.toNat_natCast,Ao jF,eM,Int.toNat_natCast,show(⟨ZX,l,pk⟩:Z0).a=ZX from rfl,lj,vK,Int.toNat_natCast]
  rw[YM]at hv;have oP:∀s2,CL s' s2 (fun x=>x=s.a+4\/x=s.a+3)->s2.d=[]/\s2.c=s.a/\s.a+5<=s2.a/\∀y,y<s.a+3->s2.b.g y=sA.b.g y:=fun s2 c3=>by
   have c4:=kG.g (FY c3 (o2:=fun y=>s.a+3<=y) fun y hy=>by omega) (own:=fun y=>s.a+3<=y) (fun y h=>by omega) (fun _ h=> .inl h) q9;refine⟨List.eq_nil_iff_forall_not_mem.2 fun y hy=>?_,c4.a.trans bB,by have:=c4.d;omega,fun y hy=>(c4.b y (by omega) (by omega)).trans (oB y hy)⟩;rcases c4.e y hy with h|⟨h,h2⟩
   .rw[lB]at h;cases h
   .omega
  refine Ld<|Tf U<|Sx<|A0 U<|Es<|Lv 2 U ?_;refine An U U (by kernel_rfl) U U U U (zh (ts:=(List.range ar).map (W9 l)) (rhs:=W9 l r) im ⟨hf.b,hf.e,hf.i,hf.j,hc.G⟩ uj en.e fp tp jF (by rw[fT];exact eM) (by rw[fT];omega) (fun i hi=>?_) (Ez im ql) (fun q hq s2 c3 l3=>?_) fun hq s2 c3 l3=>?_)
  .rw[fT]at hi;rw[List.getElem_map,List.getElem_range];exact Ez im (by omega)
  .rw[hq]at hv;obtain⟨z1,z2,z3,z4⟩:=oP s2 c3;have y6:=(z4 (s.a+1) (by omega)).trans g6;have y7:=(z4 (s.a+2) (by omega)).trans g7;refine Ln (kw U y6 U) U ?_;refine CA.named fun s3 qz=>?_;have x6:s3.b.g (s.a+1)=some (.J (W3 q) 41 false):=by rw[qz];exact Ah.trans (if_pos rfl)
   have x7:s3.b.g (s.a+2)=some (.J [.int .i64 0] 31 false):=by rw[qz];exact(Ah.trans (if_neg (by omega))).trans y7
   have x8:s3.d=[]:=by rw[qz];exact BQ (by omega) z1
   have x9:s3.c=s.a:=by rw[qz];exact z2
   clear qz;refine Ln (kw U x7 U) U<|Ld<|Se ?_;exact way_ret U U U (BQ (by omega) x8) ((Ah.trans (if_neg (by omega))).trans x6) (Ah.trans (if_pos U)) hv
  .rw[hq]at hv;obtain⟨z1,z2,z3,z4⟩:=oP s2 c3;exact Tv U U U z2 z3 z1 ((z4 (s.a+1) (by omega)).trans g6) ((z4 (s.a+2) (by omega)).trans g7) hv
 .have zq:=CF.g he;subst zq;have kG:=ed.g c2 (fun _ h=>h) (fun y hy=>hy.elim (fun h=> .inl (by omega)) fun h=> .inl (by have:=zp y h;omega)) q9;refine Tv U U U (kG.a.trans bB) (by have:=kG.d;omega) (List.eq_nil_iff_forall_not_mem.2 fun y hy=>?_) ((kG.b _ (by omega) (by omega)).trans g6B) ((kG.b _ (by omega) (by omega)).trans g7B) hv;rcases kG.e y hy with h|⟨h,h2⟩
  .rw[lB]at h;cases h
  .omega
end
end Go.Proofs.YtpihdbhocgcbpaaGreatDoor.Wy
open Go Am
namespace Am
open Go
def iq (s:St) (T:TypeId) (sz:Nat) (v:AV) (cs:List AV) (n:Nat):Prop:=
 a_ s T sz v cs n\/∃b,v= .Z b 0 n sz (some n)/\b<s.a/\s.b.g b=some (.J cs T false)/\cs.length=n*sz/\n≠0
variable {KP:AV->Sl->St->Prop} {new:List AV} {ts:List TypeId} {VZ k:Nat}
section
variable {s s' : St} {T : TypeId} {sz n : Nat} {v : AV} {cs : List AV}
theorem iq.own (h:iq s T sz v cs n) {c:Nat} (hc:CB c v=true):c<s.a:=by
 rcases h with h|⟨b,rfl,hb,_⟩
 .exact h.own hc
 .have:=Qb (show Nat.beq b c=true from hc);omega
theorem iq.CQ (h:iq s T sz v cs n) (hn:s.a<=s'.a) (hh:∀c,CB c v=true->s'.b.g c=s.b.g c):iq s' T sz v cs n:=by
 rcases h with h|⟨b,rfl,hb,hg,h3,h4⟩
 .exact .inl (h.CQ hn hh)
 .exact .inr ⟨b,U,by omega,(hh b (Nat.beq_refl b)).trans hg,h3,h4⟩
theorem iq.typ (h:iq s T sz v cs n) {c:Nat} (hc:CB c v=true):∃pt,s.b.g c=some (.J cs T pt):=by
 rcases h with h|⟨b,rfl,hb,hg,h3,h4⟩
 .rcases h with⟨rfl,_⟩|⟨b,rfl,_,hg,_⟩
  .cases hc
  .obtain rfl:=Qb (show Nat.beq b c=true from hc);exact⟨_,hg⟩
 .obtain rfl:=Qb (show Nat.beq b c=true from hc);exact⟨_,hg⟩
theorem iq.at (h:iq s T (sz+1) v cs n) (hk:k<n):∃b cap pt,v= .Z b 0 n (sz+1) cap/\b<s.a/\s.b.g b=some (.J cs T pt)/\OK (sz+1) k v=some (.J b (k*(sz+1)))/\
 ∀(s2:St) (ur:List AV),s.a<=s2.a->s2.b.g b=some (.J ur T pt)->ur.length=cs.length->iq s2 T (sz+1) v ur n:=by
 rcases h with h|⟨b,rfl,hb,hg,h3,h4⟩
 .have hc:=h.cells;obtain⟨b,rfl,hb,hg,hi⟩:=h.at hk;exact⟨b,none,true,rfl,hb,hg,hi,fun s2 ur hn h2 hl=> .inl (.inr ⟨b,rfl,by omega,h2,by rw[hl,hc],by omega⟩)⟩
 .refine⟨b,some n,false,rfl,hb,hg,?_,fun s2 ur hn h2 hl=> .inr ⟨b,rfl,by omega,h2,by rw[hl,h3],h4⟩⟩;show(bif Nat.blt k n then some (AV.J b (0+k*(sz+1)))else none)=_;rw[show Nat.blt k n=true from Qd hk,Nat.zero_add];rfl
theorem P1 {b m:Nat} (hg:s.b.g b=some (.J cs T false)) (hl:cs.length=n*sz) (hn:n≠0) (hm:m≠0) (ao:k7 (n+m) VZ=true):
 CP s T sz VZ new m (.Z b 0 n sz (some n))=some (.Z s.a 0 (n+m) sz none,s.g (.J (cs++new) T true)):=by
 have er:Nat.beq m 0=false:=by grind [Qb]
 have a9:jS sz n m (some n) cs=false:=by
  show Nat.ble (n+m) n=false;cases hb:Nat.ble (n+m) n with
  |false=>rfl
  |true=>have:=Qc hb;omega
 obtain⟨k,rfl⟩:∃k,n=k+1:=⟨n-1,by omega⟩
 unfold CP;simp only[er,cond_false,Nat.beq_refl,ao,Bool.and_self,cond_true,hg,aw,da];rw[show XE 0 cs=some cs from rfl];simp only[Qe,a9,cond_false,Bool.true_or,cond_true];rw[<-hl,DI];rfl
end
section
variable {E : c_} {fr : Fr} {l : Sl} {st : St} {o : Oper} {all rest : List Oper} {K : Sl -> St -> Prop}
theorem Ia {c:Call} {t e:TypeId} {x y:Operand} {sz n d:Nat} {z v:AV} {cs:List AV} (ah:iq st e sz v cs n) (XV:new.length=sz) (fj:0<sz) (aq:k7 1 VZ=true) (ao:k7 (n+1) VZ=true)
 (ho:o.op= .call c) (hc:c.callee= .builtin .append) (ht:c.argTypes.toList=t::ts) (ha:c.args.toList=[x,y])
 (hu:Wb E t=some (.slice e)) (X2:an E e=some sz) (cQ:i_ E e=some VZ) (hz:h_ E e=some z) (hk:(!(Nat.beq (Xu z.g) sz)||Nat.beq sz 0|| !(ZY E ts.head?))=false) (h0:Xw E ts.head?=false)
 (hx:Cg x l=some v) (hy:Cg y l=some (.Z st.a 0 1 sz (some 1))) (hg:o.guard=none) (hd:o.dst=some d) (C5:Nat.blt d fr.nt=true)
 (h:∀v2 XW,a_ XW e sz v2 (cs++new) (n+1)->(∀c,CB c v2=true->st.a<=c)->CL st XW (fun c=>CB c v=true)->(st.c<=st.a->Ch st XW)->
  CA E KP all rest fr ((d,v2)::l) XW K):CA E KP all (o::rest) fr l (st.g (.J new e false)) K:=by
 rcases ah with ah|⟨b,rfl,hb,sr,hl,hn⟩
 .grind [Td]
 .refine CA.op (Zl.append ho hc ht ha hu X2 cQ hz hk h0 hx hy (Bt (e:=e) (part:=false) Ax XV) (P1 ((Ap hb).trans sr) hl hn (Nat.succ_ne_zero 0) ao)) hg hd C5 (h _ _ (.inr ⟨_,rfl,Nat.lt_succ_self _,Ax,by rw[Qm,hl,XV,Nat.succ_mul],Nat.succ_ne_zero n⟩) (fun c hc=>?_) ?_ fun eN=>(Ch.z eN).g (Ch.z (by show st.c<=st.a+1;omega)))
  .have:=Qb (show Nat.beq (st.a+1) c=true from hc);omega
  .exact⟨by show st.a<=st.a+1+1;omega,rfl,fun c hc=> .inl hc,fun c hc _=>(Ap (show c<st.a+1 by omega)).trans (Ap hc)⟩
end
end Am
namespace Go.Proofs.YtpihdbhocgcbpaaGreatDoor.Wy
structure mJ (s:St) (v:AV) (L:List (C8×AV)):Prop where
 a:iq s 98 6 v (L.flatMap (Ct jO)) L.length
 args:∀p∈L,jj s p.1 p.2
variable {V a:AV} {L:List (C8×AV)} {zl:List Int} {k m:Nat}
theorem mJ.CQ {s s':St} {v:AV} (h:mJ s v L) (hn:s.a<=s'.a) (hh:∀c,c<s.a->(CB c v=true\/∃cs,s.b.g c=some (.J cs 3 true))->s'.b.g c=s.b.g c):mJ s' v L:=
 ⟨h.a.CQ hn fun c hc=>hh c (h.a.own hc) (.inl hc),fun p hp=>(h.args p hp).CQ hn fun c cs hc hg=>hh c hc (.inr ⟨cs,hg⟩)⟩
def nP (a:AV) (l:List Int):Prop:=a=Cq CN 1 l\/a=bH (l.flatMap CN) l.length 1
structure eo (V:AV) (l:List C8) (L:List (C8×AV)):Prop where
 b:L.map (·.1)=l
 a:V=bH (L.flatMap (Ct jO)) l.length 6
 c:∀p∈L,nP p.2 p.1.args
theorem IK (l:List Int):(l.flatMap CN).length=l.length:=by
 induction l with
 |nil=>rfl
 |cons a l ih=>rw[List.flatMap_cons,Qm,ih,List.length_cons];exact Nat.add_comm _ _
theorem G6 (l:List Int):(l.flatMap CN).all aL=true:=List.all_eq_true.2 fun v hv=>by
 obtain⟨k,_,hk⟩:=List.mem_flatMap.1 hv;rw[Qp.1 hk];rfl
theorem frz_kid {s:St} (h:gR s a zl) (ho:∀b,CB b a=true->m<=b):∃a2 bs,nP a2 zl/\(∀b∈bs,m<=b)/\∀j ks,C9 s m (j+2) a ks=some (a2,bs++ks):=by
 rcases h with rfl|h
 .exact⟨_,[],.inl U,(fun b hb=>by cases hb),fun j ks=>rfl⟩
 .rcases h with⟨rfl,h0,_⟩|⟨b,rfl,hb,hg,hl,h0⟩
  .exact⟨.Ca,[],.inr (by rw[h0];rfl),(fun b hb=>by cases hb),fun j ks=>rfl⟩
  .refine⟨bH (zl.flatMap CN) zl.length 1,[b],.inr U,fun c hc=>by rw[Qp.1 hc];exact ho b (Nat.beq_refl b),fun j ks=>?_⟩;rw[GZ (ho b (Nat.beq_refl b)) hg hl (FR (G6 zl)),O3 (G6 zl),EN h0];rfl
theorem P6 (h:nP a zl):Cr 40 a=true:=by
 rcases h with rfl|rfl
 .rfl
 .unfold bH;cases Nat.beq zl.length 0<;>rfl
theorem QY {f:AV->List Nat->Option (AV×List Nat)}:∀ {a b:List AV} {ks:List Nat} {a2:List AV} {k2:List Nat},C9.many f a ks=some (a2,k2)->C9.many f (a++b) ks=(C9.many f b k2).bind fun q=>some (a2++q.1,q.2)
 | [],b,ks,a2,k2,h=>by
  cases h;show C9.many f b ks=_;cases C9.many f b ks<;>rfl
 |v::a,b,ks,a2,k2,h=>by
  change ((f v ks).bind fun p=>(C9.many f a p.2).bind fun q=>some (p.1::q.1,q.2))=_ at h;show((f v ks).bind fun p=>(C9.many f (a++b) p.2).bind fun q=>some (p.1::q.1,q.2))=_;cases h1:f v ks with
  |none=>rw[h1]at h;cases h
  |some p=>
   rw[h1]at h;simp only[Qe]at h|-;cases h2:C9.many f a p.2 with
   |none=>rw[h2]at h;cases h
   |some q=>
    rw[h2]at h;cases h;rw[QY h2];cases C9.many f b q.2<;>rfl
theorem Oi {s:St} {m:Nat}:∀ {L:List (C8×AV)},(∀p∈L,gR s p.2 p.1.args/\∀b,CB b p.2=true->m<=b)->∃L2:List (C8×AV),L2.map (·.1)=L.map (·.1)/\(∀p∈L2,nP p.2 p.1.args)/\∀ks,∃k2,(∀b∈k2,b∈ks\/m<=b)/\C9.many (C9 s m 38) (L.flatMap (Ct jO)) ks=some (L2.flatMap (Ct jO),k2)
 | [],_=>⟨[],rfl,(fun p hp=>by cases hp),fun ks=>⟨ks,fun b hb=> .inl hb,rfl⟩⟩
 |p::L,h=>by
  obtain⟨h1,h2⟩:=h p (Qh ..);obtain⟨a2,bs,k1,k2,k3⟩:=frz_kid h1 h2;obtain⟨L2,e1,e2,e3⟩:=Oi fun q hq=>h q (Qg _ hq);refine⟨(p.1,a2)::L2,by rw[List.map_cons,List.map_cons,e1],fun q hq=>?_,fun ks=>?_⟩
  .grind
  .obtain⟨k4,e4,e5⟩:=e3 (bs++ks);refine⟨k4,fun b hb=>?_,?_⟩
   .grind
   .have hh:C9.many (C9 s m 38) (Ct jO p) ks=some (Ct jO (p.1,a2),bs++ks):=by
     show C9.many (C9 s m 38) [.bool p.1.b,.bool (p.1.a&& !p.1.c),.bool p.1.c,.int .i64 p.1.op,.int .i64 p.1.n,p.2] ks=_;simp only[C9.many,show∀n q,C9 s m 38 (.int .i64 n) q=some (.int .i64 n,q)from fun _ _=>rfl,show∀n q,C9 s m 38 (.bool n) q=some (.bool n,q)from fun _ _=>rfl,k3,Qe];rfl
    rw[List.flatMap_cons,QY hh,e5];rfl
theorem O5 (h:∀p∈L,nP p.2 p.1.args):(L.flatMap (Ct jO)).all (Cr 40)=true:=List.all_eq_true.2 fun v hv=>by
 obtain⟨p,hp,hk⟩:=List.mem_flatMap.1 hv;have hk:v∈[AV.bool p.1.b,.bool (p.1.a&& !p.1.c),.bool p.1.c,.int .i64 p.1.op,.int .i64 p.1.n,p.2]:=hk;simp only[Qk,List.not_mem_nil,or_false]at hk;rcases hk with rfl|rfl|rfl|rfl|rfl|rfl;any_goals rfl
 exact P6 (h p hp)
theorem Vc {s:St} {v:AV} (h:mJ s v L) (hv:∀b,CB b v=true->m<=b) (ha:∀p∈L,∀b,CB b p.2=true->m<=b):∃V L2 bs,eo V (L.map (·.1)) L2/\(∀b∈bs,m<=b)/\C9 s m 39 v []=some (V,bs):=by
 obtain⟨L2,e1,e2,e3⟩:=Oi (s:=s) (m:=m) (L:=L) fun p hp=>⟨(h.args p hp).1,ha p hp⟩;obtain⟨k2,e4,e5⟩:=e3 [];have hlen:L2.length=L.length:=by have:=congrArg List.length e1;rwa[Qn,Qn]at this
 have key:∀(b:Nat) (cap:Option Nat) (pt:Bool),v= .Z b 0 L.length 6 cap->s.b.g b=some (.J (L.flatMap (Ct jO)) 98 pt)->L.length≠0->∃V L2 bs,eo V (L.map (·.1)) L2/\(∀b∈bs,m<=b)/\C9 s m 39 v []=some (V,bs):=fun b cap pt e hg h0=>by
  subst e;refine⟨_,L2,b::k2,⟨e1,rfl,e2⟩,fun c hc=>?_,?_⟩
  .rcases Qk.1 hc with rfl|hc
   .exact hv c (Nat.beq_refl c)
   .grind
  .rw[GZ (hv b (Nat.beq_refl b)) hg (AR (fun _=>rfl) L) e5,O5 e2,Qn,EN h0]
 rcases h.a with hg|⟨b,e,hb,hg,_,h0⟩
 .rcases hg with⟨rfl,h0,_⟩|⟨b,e,hb,hg,_,h0⟩
  .have hL:L=[]:=List.length_eq_zero_iff.1 h0;subst hL;exact⟨.Ca,[],[],⟨rfl,rfl,fun p hp=>by cases hp⟩,(fun b hb=>by cases hb),rfl⟩
  .exact key b none true e hg h0
 .grind
theorem nP.len (h:nP a zl):aQ a=some (.int .i64 (zl.length:Nat)):=by
 rcases h with rfl|rfl
 .rfl
 .by_cases h0:zl.length=0
  .rw[h0];rfl
  .rw[EN h0];rfl
theorem nP.at (h:nP a zl) (hk:k<zl.length):∃cs,OK (0+1) k a=some (.XD (.int .i64 zl[k]::cs)):=by
 have h1:=Af AD hk;rcases h with rfl|rfl
 .exact⟨_,h1⟩
 .rw[EN (by omega)];exact⟨_,h1⟩
theorem LC {hd:C8->List AV} (ny:∀r,(hd r).length=5):∀ {L:List (C8×AV)} {m:Nat} (hm:m<L.length),∃cs,(L.flatMap (Ct hd)).drop (m*6)=Ct hd L[m]++cs
 |p::L,0,_=>⟨_,by rw[List.flatMap_cons,Nat.zero_mul,List.drop_zero];rfl⟩
 |p::L,m+1,hm=>by
  have hl:(Ct hd p).length=6:=by grind [Qm,Ct]
  obtain⟨cs,e⟩:=LC ny (L:=L) (m:=m) (Nat.lt_of_succ_lt_succ hm);exact⟨cs,by rw[List.flatMap_cons,show(m+1)*6=(Ct hd p).length+m*6 by omega,<-List.drop_drop,List.drop_left,e];rfl⟩
theorem eo.g {l:List C8} (h:eo V l L):aQ V=some (.int .i64 (l.length:Nat)):=by
 rw[h.a];by_cases h0:l.length=0
 .rw[h0];rfl
 .rw[EN h0];rfl
theorem eo.u {l:List C8} (h:eo V l L) (hk:k<l.length):∃a cs,nP a l[k].args/\OK (5+1) k V=some (.XD (.bool l[k].b:: .bool (l[k].a&& !l[k].c):: .bool l[k].c:: .int .i64 l[k].op:: .int .i64 l[k].n::a::cs)):=by
 have hL:L.length=l.length:=by rw[<-h.b,Qn]
 have pR:k<L.length:=by omega
 have e1:l[k]=L[k].1:=by
  have:=h.b;subst this;rw[List.getElem_map]
 obtain⟨cs,e2⟩:=LC (hd:=jO) (fun _=>rfl) pR;refine⟨L[k].2,cs,by rw[e1];exact h.c _ (Ql pR),?_⟩;rw[h.a,EN (by omega),e1];show(bif Nat.blt k l.length then(XE (k*6) (L.flatMap (Ct jO))).bind _ else none)=_;rw[show Nat.blt k l.length=true from Qd hk];have hc:=AR (hd:=jO) (fun _=>rfl) L;rw[Hk (by omega),e2];rfl
end Go.Proofs.YtpihdbhocgcbpaaGreatDoor.Wy
