/- Printing, part 5. -/
import Derived.Test.YtfhimfcbphepeaaGreatDoorCdA
import Derived.Test.YtfhimfcbphepeaaGreatDoorCdD
import Derived.Test.YtfhimfcbphepeaaGreatDoorAmH
set_option linter.unusedSectionVars false
set_option linter.unusedVariables false
set_option linter.unusedSimpArgs false
open Go Am
namespace Go.Proofs.YtfhimfcbphepeaaGreatDoor.Ty
mutual
theorem Rj:∀t:Cc,(cZ t).length<=Ct t
 | .mk o n ks=>by
  have:=SK ks;rw[cZ,Ct,Qm];split
  .rw[List.length_singleton];omega
  .rw[List.length_nil];omega
theorem SK:∀ts:List Cc,(gJ ts).length<=C5 ts
 | []=>Qj _
 |t::ts=>by
  have h1:=Rj t;have h2:=SK ts;rw[gJ,C5,Qm];omega
end
noncomputable abbrev KW (d:Nat):=A' KP24 247 mZ (fun t=>az (cZ t.1)) (fun t=>CL t.1) d
theorem rlets_to (d:Nat) (t:Cc) (h:CL t=d+1) (hs:Ct t<=1000) (hx:KW d 247 [.agg (Cf t)]=none):Cj (EK (KW d)) 247 [.agg (Cf t)] S0 (az (cZ t)):=by
 rw[Ak]at hx|-;refine Bt (fn:=Tryz.f247) U hx U U U U U ?_;obtain⟨o,n,ks⟩:=t;have hlen:=BC (l:=ks);have lh:Yl ks<=d:=by have:Yl ks+1=d+1:=h;omega
 have hnk:C5 ks+1<=1000:=hs;have uz:=Bo ks;refine Eh U<|Ew U<|BT (D6 (fun x:AV×St=>([(3,x.1),(1,.Z 0 0)],x.2)) (fun x=>c_ x.2 3 1 x.1 ((if o=8 then [n]else([]:List Int)).flatMap ZS) (if o=8 then [n]else([]:List Int)).length/\x.2.b=0/\x.2.c=[]/\0<x.2.a/\CT 0 x.1=false/\
  x.2.heap.u 0=some (.J [.int .i64 o,.int .i64 n,Cs ks] 47 false)) ?_ ?_)
 .obtain⟨st,Zc⟩:∃st,st=Y9 1 0 [] [(0,some (.J [.int .i64 o,.int .i64 n,Cs ks] 47 false))]:=⟨_,rfl⟩
  refine CA.st (s2:=st) (by rw[Zc];rfl) ?_;have aO:st.b=0:=by rw[Zc];rfl
  have Z9:st.c=[]:=by rw[Zc];rfl
  have fB:st.a=1:=by rw[Zc];rfl
  have h0:st.heap.u 0=some (.J [.int .i64 o,.int .i64 n,Cs ks] 47 false):=by rw[Zc];rfl
  clear Zc;by_cases h8:o=8
  .simp only[if_pos h8];focus
    refine Es<|Lv 1 U<|Lo (kl U h0 U) U<|Lw U<|Cd U (fun h1=>?_) (fun h1=>?_);refine Sr<|Lv 2 U<|Lo (kl U h0 U) U<|Lo (Bv U Vf Eo z_3 U U U) U ?_;rotate_left;omega
   refine DT (c_.nil st 3 1) U (by decide) (AP (by omega) (by decide)) (AP (by omega) (by decide)) U U U U Vf Eo xd z_3 U U U U U U U fun v6 s6 f6 o6 c6 l6=>?_;refine Lw U ?_;refine⟨rfl,(v6,s6),⟨f6,c6.b.trans aO,List.eq_nil_iff_forall_not_mem.2 fun c hc=>?_,Nat.lt_of_lt_of_le (by omega) c6.a,?_,(c6.heap 0 (by omega) (fun h=>by cases h)).trans h0⟩,rfl,Ac (by trivial)⟩
   .rcases c6.d c hc with h1|h1
    .rw[Z9]at h1;cases h1
    .omega
   .cases ho:CT 0 v6 with
    |false=>rfl
    |true=>have:=o6 0 ho;omega
  .simp only[if_neg h8];focus
    refine Es<|Lv 1 U<|Lo (kl U h0 U) U<|Lw U<|Cd U (fun h1=>?_) (fun h1=>?_);omega;refine Sk ?_;rotate_left
   exact⟨U,(.Ca,st),⟨c_.nil st _ _,aO,Z9,by show 0<st.a;omega,U,h0⟩,U,Ac (by trivial)⟩
 .rintro⟨v,st⟩ ⟨dy,aO,Z9,fB,tq,h0⟩;dsimp only at dy aO Z9 fB tq h0|-;have jm:(if o=8 then [n]else([]:List Int)).length<=1:=by split<;>simp
  have je:cZ (.mk o n ks)=(if o=8 then [n]else([]:List Int))++gJ ks:=rfl;generalize (if o=8 then [n]else([]:List Int))=pre at*;refine Sq<|Ew U<|Sb<|Ai (fun x:Nat×List Int×AV×St=>([(4,.int .i64 (x.1:Nat)),(3,x.2.2.1),(1,.Z 0 0)],x.2.2.2)) (fun x=>ks.length-x.1)
   (fun x=>x.1<=ks.length/\cZ (.mk o n ks)=x.2.1++gJ (ks.drop x.1)/\x.2.1.length+C5 (ks.drop x.1)<=1000/\c_ x.2.2.2 3 1 x.2.2.1 (x.2.1.flatMap ZS) x.2.1.length/\x.2.2.2.b=0/\x.2.2.2.c=[]/\0<x.2.2.2.a/\CT 0 x.2.2.1=false/\
    x.2.2.2.heap.u 0=some (.J [.int .i64 o,.int .i64 n,Cs ks] 47 false)) (0,pre,v,st) ⟨Qo _,je,by show pre.length+C5 ks<=1000;omega,dy,aO,Z9,fB,tq,h0⟩ rfl (Ac (by trivial)) ?_
  clear dy aO Z9 fB tq h0 je jm;rintro⟨i,out,v,st⟩ ⟨hi,hl,hb,dy,aO,Z9,fB,tq,h0⟩;dsimp only at hi hl hb dy aO Z9 fB tq h0|-;by_cases h:i<ks.length
  .have YK:=BD h;have ot:Ct ks[i]<=1000:=Nat.le_trans (BH (Ql h)) (by omega);rw[List.drop_eq_getElem_cons h,C5]at hb;rw[List.drop_eq_getElem_cons h,gJ,<-List.append_assoc]at hl;have uT:=Rj ks[i];have p5:KW d 247 [.agg (Cf ks[i])]=some (az (cZ ks[i])):=DE EU ⟨ks[i],ot⟩ (Nat.le_trans (Bg (Ql h)) lh);rw[Ak]at p5 YK;focus
    refine Sq<|Es<|Lv 2 U<|Lo (kl U h0 U) U<|Lw U<|Cd U (fun h1=>?_) (fun h1=>?_);refine Sk<|Sq<|Sb<|Sr<|Lv 2 U<|Lo (kl U h0 U) U<|qm U<|Lq (kv U YK) U<|Lv 1 U<|Lo (kc U (p5)) U ?_;rotate_left;omega
   generalize cZ ks[i]=w at*;refine NR dy aO (m:=w.length) (new:=w.flatMap ZS) (by rw[DD,Nat.mul_one]) (by decide) (AP (by omega) (by decide)) U U U U Vf Eo xd z_3 U U U (by rw[xw rfl];rfl) U U U ?_;intro v2 s2 g2 o2 n2 k2 l2 b2;refine Lw U<|Sr<|qm U<|Lq (ka (b:=1) U (by omega)) U<|Lw U ?_;refine⟨(i+1,out++w,v2,s2),⟨h,hl,by dsimp only;rw[Qm];omega,by dsimp only;rw[List.flatMap_append,Qm];exact g2,b2,List.eq_nil_iff_forall_not_mem.2 fun c hc=>?_,by dsimp only;omega,?_,(k2 0 fB tq).trans h0⟩,by show ks.length-(i+1)<ks.length-i;omega,rfl,rfl,Ac (by trivial)⟩
   .have:=l2 c hc;rw[Z9]at this;cases this
   .cases ho:CT 0 v2 with
    |false=>rfl
    |true=>
     rcases o2 0 ho with h|h
     .rw[tq]at h;cases h
     .omega
  .obtain rfl:i=ks.length:=by omega
   rw[List.drop_length,gJ,List.append_nil]at hl;focus
    refine Sq<|Es<|Lv 2 U<|Lo (kl U h0 U) U<|Lw U<|Cd U (fun h1=>?_) (fun h1=>?_);omega;refine Sx<|Ax U<|Ew U ?_;rotate_left
   obtain⟨jD,hf⟩:=dy.ma (VZ _) (R9 _) 38;refine Se ⟨.inl U,U,Z9,aO,_,_,jD,Aa U U,hf,?_,?_⟩
   .rw[xw rfl];exact Jq _ _
   .rw[xw rfl,hl]
noncomputable def KP25:=CX KP24 247 mZ (fun t=>az (cZ t.1))
theorem hq_247 {t:Cc} (h:Ct t<=1000):KP25 247 [.agg (Cf t)]=some (az (cZ t)):=Aj (enc:=mZ) (fun a b h=>by rw[EU a b h]) ⟨t,h⟩
theorem pall25 (h:CM Tryz.prog 8 [] (.bool true)):Co Tryz.prog gn KP25:=
 Lt (deep:=fun p:SzT=>CL p.1) Aw Ag (pall24 h) EU (fun p=>Dt p.1) Og (fun _=>DL _) fun d p hp hx=>rlets_to d p.1 hp p.2 hx
mutual
theorem S6:∀(t:Cc) (b:List Int),(dB t b).1.length<=b.length+Ct t
 | .mk o n ks,b=>by
  unfold dB Ct;split
  .have:=MY n b;show(cT b n).length<=_;omega
  .have:=OH ks b;omega
theorem OH:∀(ts:List Cc) (b:List Int),(eH ts b).1.length<=b.length+C5 ts
 | [],_=>Qj _
 |t::ts,b=>by
  have h1:=S6 t b;unfold eH C5;split
  .next c e=>
   rw[e]at h1;have h2:=OH ts c;have h1:c.length<=b.length+Ct t:=h1;omega
  .next c e=>
   rw[e]at h1;have h1:c.length<=b.length+Ct t:=h1;show c.length<=_;omega
end
abbrev OnT:= {p:Cc×List Int//p.2.length+Ct p.1<=3000}
def oK (p:OnT):List AV:=[.agg (Cf p.1.1),az p.1.2]
def ji (r:List Int×Bool):AV:= .O [az r.1,.bool r.2]
theorem K9 (a b:OnT) (h:oK a=oK b):a=b:=by
 obtain⟨⟨a,l⟩,_⟩:=a;obtain⟨⟨b,m⟩,_⟩:=b;simp only[oK,List.cons.injEq,AV.agg.injEq,and_true]at h;obtain⟨h1,h2⟩:=h;obtain rfl:=AO _ _ h1;obtain rfl:=QC h2;rfl
theorem Wf (p:OnT):(oK p).all (Cm 40)=true:=by
 unfold oK;rw[List.all_cons,AU,List.all_cons,DL];rfl
theorem OI (r:List Int×Bool):Cm 40 (ji r)=true:=by
 obtain⟨l,b⟩:=r;cases l<;>rfl
theorem JN (r:List Int×Bool) (s:St) (m:Nat):CW s m 40 (ji r) []=some (ji r,[]):=by
 obtain⟨l,b⟩:=r;cases l<;>rfl
theorem Ha (r:List Int×Bool) (m:Nat):Cw m 40 (ji r)=true:=by
 obtain⟨l,b⟩:=r;cases l<;>rfl
noncomputable abbrev KO (d:Nat):=A' KP25 245 oK (fun p=>ji (dB p.1.1 p.1.2)) (fun p=>CL p.1.1) d
theorem ronce_to (d:Nat) (t:Cc) (bf:List Int) (h:CL t=d+1) (hs:bf.length+Ct t<=3000) (hx:KO d 245 [.agg (Cf t),az bf]=none):Cj (EK (KO d)) 245 [.agg (Cf t),az bf] S0 (ji (dB t bf)):=by
 rw[Ak]at hx|-;refine Bt (fn:=Tryz.f245) U hx U U U U U ?_;obtain⟨o,n,ks⟩:=t;have hlen:=BC (l:=ks);have lh:Yl ks<=d:=by have:Yl ks+1=d+1:=h;omega
 have hnk:bf.length+(C5 ks+1)<=3000:=hs;have uz:=Bo ks;have na:KO d 250 [az bf,.int .i64 n]=some (az (cT bf n)):=hq_250 (by omega);have hit_249:KO d 249 [az bf,.int .i64 n]=some (.bool (bf.contains n)):=Pp (by omega);focus
  refine Eh U<|Sq<|Eh U<|Cd U (fun h1=>?_) (fun h1=>?_);refine Af (by kernel_rfl)<|Nv 2 U<|Ad U GM Eo U U U U (.inl U) U U<|Na (kC U (na)) (.inl U) U<|Nv 2 U<|Ad U GM Eo U U U U (.inl U) U U<|Na (kC U (hit_249)) (.inl U) U<|Nw U ?_;rotate_left;refine Sk<|Ew U<|Sq<|Ew U<|Sb ?_;rotate_left
 .refine Se ⟨.inl U,U,U,U,_,_,[],Aa U (Aa U U),JN (cT bf n, !bf.contains n) _ _,Ha (cT bf n, !bf.contains n) _,?_⟩;unfold dB;rw[if_pos (show o=1 from h1)]
 have hv:dB (.mk o n ks) bf=eH ks bf:=by unfold dB;rw[if_neg (show¬o=1 by assumption)]
 rw[hv];refine Ai (fun x:Nat×Bool×List Int=>([(7,.int .i64 (x.1:Nat)),(6,.bool x.2.1),(1,az x.2.2),(2,.Z 0 0)],Y9 1 0 [] [(0,some (.J [.int .i64 o,.int .i64 n,Cs ks] 47 false))])) (fun x=>ks.length-x.1)
  (fun x=>x.1<=ks.length/\eH ks bf=(if x.2.1 then eH (ks.drop x.1) x.2.2 else(x.2.2,false))/\x.2.2.length+C5 (ks.drop x.1)<=3000) (0,true,bf) ⟨Qo _,rfl,by show bf.length+C5 ks<=3000;omega⟩ rfl (Ac (by trivial)) ?_
 rintro⟨i,is,b⟩ ⟨hi,hu,hb⟩;dsimp only at hi hu hb|-;by_cases h:i<ks.length
 .cases is with
  |false=>
   focus
    refine Sq<|Es<|Ls 6 U<|Bd U (fun h2=>?_) (fun h2=>?_);refine Lw U<|Tf U<|Sx<|Ax U<|Ew U ?_;rotate_left;omega
   refine Se ⟨.inl U,U,U,U,_,_,[],Aa U (Aa U U),JN (b,false) _ _,Ha (b,false) _,?_⟩;rw[hu];rfl
  |true=>
   have YK:=BD h;rw[List.drop_eq_getElem_cons h,C5]at hb;rw[if_pos rfl,List.drop_eq_getElem_cons h,eH]at hu;have hol:=S6 ks[i] b;have eX:KO d 245 [.agg (Cf ks[i]),az b]=some (ji (dB ks[i] b)):=DE K9 ⟨(ks[i],b),by show b.length+Ct ks[i]<=3000;omega⟩ (Nat.le_trans (Bg (Ql h)) lh);generalize dB ks[i] b=r at*;obtain⟨c,ok⟩:=r;rw[Ak]at eX YK;unfold ji at eX;dsimp only at hol eX;focus
    refine Sq<|Es<|Ls 6 U<|Bd U (fun h2=>?_) (fun h2=>?_);refine Lw U<|Tt U<|Sk<|Sq<|Sb<|Sr<|Ls 3 U<|Lq (kv U YK) U<|Lv 2 U<|Lo (kc U (eX)) U<|Lw U<|Sr<|qm U<|Lq (ka (b:=1) U (by omega)) U<|Lw U ?_;rotate_left;omega
   exact⟨(i+1,ok,c),⟨h,by rw[hu];cases ok<;>rfl,by dsimp only;omega⟩,by show ks.length-(i+1)<ks.length-i;omega,rfl,rfl,Ac (by trivial)⟩
 .obtain rfl:i=ks.length:=by omega
  rw[List.drop_length]at hu;focus
   refine Sq<|Es<|Ls 6 U<|Bd U (fun h2=>?_) (fun h2=>?_);omega;refine Lw U<|Tf U<|Sx<|Ax U<|Ew U ?_;rotate_left
  refine Se ⟨.inl U,U,U,U,_,_,[],Aa U (Aa U U),JN (b,is) _ _,Ha (b,is) _,?_⟩;rw[hu];cases is<;>rfl
noncomputable def xx:=CX KP25 245 oK (fun p=>ji (dB p.1.1 p.1.2))
theorem hq_245 {t:Cc} {b:List Int} (h:b.length+Ct t<=3000):xx 245 [.agg (Cf t),az b]=some (ji (dB t b)):=Aj (enc:=oK) (fun a b h=>by rw[K9 a b h]) ⟨(t,b),h⟩
theorem rpat_to (t:Cc) (h:Ct t<=1000) (hs:YN t):Cj (EK xx) 193 [.agg (Cf t)] S0 (.bool (fM t)):=by
 have eX:xx 245 [.agg (Cf t),.Ca]=some (ji (dB t [])):=hq_245 (b:=[]) (by rw[List.length_nil];omega);have pz:xx 246 [.agg (Cf t)]=some (.bool (ao t)):=hq_246 hs;unfold fM;generalize dB t []=r at*;obtain⟨c,ok⟩:=r;unfold ji at eX;dsimp only at eX|-;rw[Ak]at*;refine As U ?_;cases ok
 .refine Eh U<|Es<|Ls 1 U<|Lo (kc U (eX)) U<|Lw U<|Ew U<|Se (Er U ?_);exact Ab U
 .refine Eh U<|Es<|Ls 1 U<|Lo (kc U (eX)) U<|Lw U<|Es<|Ls 3 U<|Lg U U (kc U (pz))<|Lw U<|Se (Er U ?_);exact Ab U
abbrev SzS:= {t:Cc//Ct t<=1000/\YN t}
def wj (t:SzS):List AV:=[.agg (Cf t.1)]
theorem X2 (a b:SzS) (h:wj a=wj b):a=b:=Subtype.ext (AO _ _ (AV.agg.inj (List.cons.inj h).1))
noncomputable def KP27:=CX xx 193 wj (fun t=> .bool (fM t.1))
theorem hq_193 {t:Cc} (h:Ct t<=1000) (hs:YN t):KP27 193 [.agg (Cf t)]=some (.bool (fM t)):=Aj (enc:=wj) (fun a b h=>by rw[X2 a b h]) ⟨t,h,hs⟩
theorem whole_to (l:List Cc):Cj (EK KP27) 198 [Cs l] S0 (.agg (Cf (aV l))):=by
 rw[Ak];refine As U ?_;iterate 2 refine Eh U ?_
 refine Se ⟨.inl U,U,U,U,_,_,_,(O3 U NN Ic U (Qc U) U),U,U,U⟩
noncomputable def ve:=CX KP27 198 wh (fun l=> .agg (Cf (aV l)))
theorem hq_198 {l:List Cc}:ve 198 [Cs l]=some (.agg (Cf (aV l))):=Aj (fun a b h=>by rw[PJ a b h]) l
abbrev PsT:= {l:List Cc//C5 l<=900}
def wk (l:PsT):List AV:=[Cs l.1]
theorem X5 (a b:PsT) (h:wk a=wk b):a=b:=Subtype.ext (H5 (List.cons.inj h).1)
theorem sums_le (l:List Cc):jr (l.map Cy)<=C5 l:=by rw[<-DM];exact MJ l
theorem sum_take (l:List Cc) {i:Nat} (h:i<l.length):jr ((l.take (i+1)).map Cy)=jr ((l.take i).map Cy)+(Cy l[i]).length:=by
 rw[List.take_succ_eq_append_getElem h,List.map_append];unfold jr;simp
theorem sum_tk (l:List Cc) (i:Nat):jr ((l.take i).map Cy)<=jr (l.map Cy):=by
 induction l generalizing i with
 |nil=>simp
 |cons t l ih=>
  cases i with
  |zero=>exact Qo _
  |succ i=>
   rw[List.take_succ_cons,List.map_cons,List.map_cons,Gp,Gp];have:=ih i;omega
theorem W9 (l:List Cc) (h:C5 l<=900):Cj (EK ve) 195 [Cs l] S0 (.bool (sU l)):=by
 refine As U ?_;have hlen:=BC (l:=l);have uz:=Bo l;have en:=sums_le l;iterate 2 refine Ew U ?_
 refine Sq<|Ew U<|Sb<|Ai (fun i:Nat=>([(4,.int .i64 (i:Nat)),(3,.int .i64 (jr ((l.take i).map Cy):Nat)),(0,Cs l)],Y9 0 0 [] [])) (fun i=>l.length-i) (fun i=>i<=l.length/\jr ((l.take i).map Cy)<=900) 0 ⟨Qo _,Qo _⟩ U (Ac (by trivial)) ?_;rintro i ⟨hi,hs⟩;by_cases h':i<l.length
 .have YK:=BD h';have ot:Ct l[i]<=1000:=Nat.le_trans (BH (Ql h')) (by omega);have Zc:=sum_take l h';have uT:=Fe l[i];have ss:=Fc (Cy l[i]);have cJ:ve 197 [.agg (Cf l[i])]=some (az (Cy l[i])):=SY ot;generalize Cy l[i]=w at*;rw[Ak]at cJ YK;focus
   refine Sq<|Ew U<|Cd U (fun h1=>?_) (fun h1=>?_);refine Sk<|Sq<|Sb<|Sr<|Lv 3 U<|Lq (kv U YK) U<|Lv 1 U<|Lo (kc U (cJ)) U<|Lq (kn U ss) U<|Lq (ka U (by omega)) U<|Lw U<|Sr<|qm U<|Lq (ka (b:=1) U (by omega)) U<|Lw U ?_;rotate_left;omega
  have jG:=sum_tk l (i+1);exact⟨i+1,⟨h',by omega⟩,by show l.length-(i+1)<l.length-i;omega,U,U,by rw[Zc];(refine Am.Ac ?_;repeat (first|exact trivial|refine⟨U,?_⟩))⟩
 .have p8:ve 198 [Cs l]=some (.agg (Cf (aV l))):=hq_198;have cJ:ve 197 [.agg (Cf (aV l))]=some (az (Cy (aV l))):=SY (by show C5 l+1<=1000;omega);have hlw:=Fc (Cy (aV l));focus
   refine Sq<|Ew U<|Cd U (fun h1=>?_) (fun h1=>?_);omega;refine Sx<|Ax U<|Es<|Lv 2 U<|Lo (kc U (p8)) U<|Lo (kc U (cJ)) U<|Lq (kn U hlw) U<|Lw U<|Se (Er U<|Ab ?_);rotate_left
  rw[List.take_of_length_le (by omega)];exact decide_eq_decide.2 (by omega)
noncomputable def sV:=CX ve 195 wk (fun l=> .bool (sU l.1))
theorem hq_195 {l:List Cc} (h:C5 l<=900):sV 195 [Cs l]=some (.bool (sU l)):=Aj (enc:=wk) (fun a b h=>by rw[X5 a b h]) ⟨l,h⟩
theorem pall29 (h:CM Tryz.prog 8 [] (.bool true)):Co Tryz.prog gn sV:=by
 have a1:Co Tryz.prog gn xx:=Lt (deep:=fun p:OnT=>CL p.1.1) Aw Ag (pall25 h) K9 (fun p=>Dt p.1.1) Wf (fun _=>OI _) fun d p hp hx=>ronce_to d p.1.1 p.1.2 hp p.2 hx;have a2:Co Tryz.prog gn KP27:=Al Aw Ag a1 (fun p:SzS=>rpat_to p.1 p.2.1 p.2.2) (fun p=>Ho p.1) (fun _=>rfl);have a3:Co Tryz.prog gn ve:=Al Aw Ag a2 whole_to (fun _=>rfl) (fun l=>AU (aV l));exact Al Aw Ag a3 (fun p:PsT=>W9 p.1 p.2) (fun _=>rfl) (fun _=>rfl)
abbrev ApT:= {p:Cc×List Int//Ct p.1<=1000/\p.2.length<=4000}
def qo (p:ApT):List AV:=[.agg (Cf p.1.1),az p.1.2]
theorem X8 (a b:ApT) (h:qo a=qo b):a=b:=by
 obtain⟨⟨a,l⟩,_⟩:=a;obtain⟨⟨b,m⟩,_⟩:=b;simp only[qo,List.cons.injEq,AV.agg.injEq,and_true]at h;obtain⟨h1,h2⟩:=h;obtain rfl:=AO _ _ h1;obtain rfl:=QC h2;rfl
theorem XV (p:ApT):(qo p).all (Cm 40)=true:=by
 unfold qo;rw[List.all_cons,AU,List.all_cons,DL];rfl
theorem apart_to (t:Cc) (ps:List Int) (h:Ct t<=1000) (hp:ps.length<=4000):Cj (EK sV) 196 [.agg (Cf t),az ps] S0 (.bool (gK t ps)):=by
 have p5:sV 247 [.agg (Cf t)]=some (az (cZ t)):=hq_247 h;have cJ:sV 197 [.agg (Cf t)]=some (az (Cy t)):=SY h;have hl:=Nat.le_trans (Rj t) h;have hv:=Nat.le_trans (Fe t) h;unfold gK;generalize cZ t=l at*;generalize Cy t=free at*;rw[Ak]at*;refine As U ?_;have hlen:=Fc l;refine Eh U<|Af U<|A9 U NN Ic U U (Qc U) U (.inl U) U U<|Na (kC U (p5)) (.inl U) U<|A9 U NN Ic U U (Qc U) U (.inl U) U U<|Na (kC U (cJ)) (.inl U) U<|Nw U<|Sq<|Ew U<|Sb<|Ai (fun i:Nat=>([(7,.int .i64 (i:Nat)),(5,az l),(6,az free),(1,az ps)],Y9 1 0 [] [(0,some (.J [.int .i64 t.op,.int .i64 t.n,Cs t.u] 47 false))])) (fun i=>l.length-i)
  (fun i=>i<=l.length/\∀j (hj:j<l.length),j<i->(decide (l.count l[j]<=1)&& !ps.contains l[j]&& !free.contains l[j])=true) 0 ⟨Qo _,fun _ _ h=>absurd h (Nat.not_lt_zero _)⟩ rfl (Ac (by trivial)) ?_
 rintro i ⟨hi,ha⟩;dsimp only at hi ha|-;by_cases h':i<l.length
 .have YK:=FA h';have hit_248:sV 248 [az l,.int .i64 l[i]]=some (.int .i64 (l.count l[i]:Nat)):=hq_248 (by omega);have hh1:sV 249 [az ps,.int .i64 l[i]]=some (.bool (ps.contains l[i])):=Pp hp;have hh2:sV 249 [az free,.int .i64 l[i]]=some (.bool (free.contains l[i])):=Pp (by omega);focus
   refine Sq<|Es<|Lv 2 U<|Lq (kn U hlen) U<|Lw U<|Cd U (fun h1=>?_) (fun h1=>?_);refine Sk<|Sq<|Sb<|Es<|Lv 3 U<|Lq (kv U YK) U<|Lv 1 U<|Lo (kc U (hit_248)) U<|Lv 2 U<|Bd U (fun h2=>?_) (fun h2=>?_);refine Lw U<|Tt U<|Ew U<|Se (Er U<|Ab ?_);rotate_left;refine Lv 3 U<|Lh U U (kv U YK)<|Lv 1 U<|Lg U U (kc U (Pp (by omega)))<|Lv 2 U<|Bb U (fun g3=>?_) (fun g3=>?_);refine Lw U<|Tt U<|Ew U<|Se (Er U<|Ab ?_);rotate_left;refine Lv 3 U<|Lh U U (kv U YK)<|Lv 1 U<|Lg U U (kc U (Pp (by omega)))<|Lw U<|Cb U (fun g4=>?_) (fun g4=>?_);refine Ew U<|Se (Er U<|Ab ?_);rotate_left;refine Sk<|Sr<|qm U<|Lq (ka (b:=1) U (by omega)) U<|Lw U ?_;rotate_left;omega
  all_goals first
   |(refine(F9 h' ?_).symm;rw[Bool.eq_false_iff];simp only[ne_eq,Qf,decide_eq_true_eq,Bool.not_eq_true'];rintro⟨⟨x,y⟩,z⟩;first|omega|simp_all)
   |(refine⟨i+1,⟨h',BR (P:=fun x=>(decide (l.count x<=1)&& !ps.contains x&& !free.contains x)=true) (h:=h') ha ?_⟩,by show l.length-(i+1)<l.length-i;omega,rfl,rfl,Ac (by trivial)⟩;simp only[Qf,decide_eq_true_eq,Bool.not_eq_true'];exact⟨⟨by omega,by assumption⟩,by assumption⟩)
 .focus
   refine Sq<|Es<|Lv 2 U<|Lq (kn U hlen) U<|Lw U<|Cd U (fun h1=>?_) (fun h1=>?_);omega;refine Sx<|Ax U<|Ew U<|Se (Er U<|Ab ?_);rotate_left
  exact(Ei fun j hj=>ha j hj (by omega)).symm
noncomputable def oe:=CX sV 196 qo (fun p=> .bool (gK p.1.1 p.1.2))
theorem hq_196 {t:Cc} {ps:List Int} (h:Ct t<=1000) (hp:ps.length<=4000):oe 196 [.agg (Cf t),az ps]=some (.bool (gK t ps)):=Aj (enc:=qo) (fun a b h=>by rw[X8 a b h]) ⟨(t,ps),h,hp⟩
mutual
theorem Dl:∀t:Cc,Ct t<=4000->YN t
 | .mk o n ks,h=>by
  rw[Ct]at h;have:=Bo ks;exact .mk (by omega) (Fh ks (by omega))
theorem Fh:∀ts:List Cc,C5 ts<=4000->∀t∈ts,YN t
 | [],_=>fun _ h=>absurd h List.not_mem_nil
 |t::ts,h=>fun x hx=>by
  rw[C5]at h;rcases Qk.1 hx with e|hx
  .rw[e];exact Dl t (by omega)
  .exact Fh ts (by omega) x hx
end
def c8 (cs fs:List Ci) (r:bw):Bool:=cQ fs r.fn (r.b.length:Nat)&&ZZ r.vars 0 20&&CQ cs fs r.a&&qn (CQ cs fs) r.vars r.b r.a
abbrev RuN:= {p:(List Ci×List Ci)×bw//p.1.1.length<=4000/\p.1.2.length<=4000/\C5 p.2.b<=900/\Ct p.2.a<=1000}
def uk (p:RuN):List AV:=[CH p.1.1.1 p.1.1.2,.agg (Yx p.1.2)]
theorem X3 (a b:RuN) (h:uk a=uk b):a=b:=by
 obtain⟨⟨⟨c,f⟩,r⟩,_⟩:=a;obtain⟨⟨⟨c',f'⟩,r'⟩,_⟩:=b;simp only[uk,List.cons.injEq,AV.agg.injEq,and_true]at h;obtain⟨h1,h2⟩:=h;obtain⟨rfl,rfl⟩:=Dr h1;obtain rfl:=K3 _ _ h2;rfl
theorem rule_to (cs fs:List Ci) (r:bw) (hc:cs.length<=4000) (hf:fs.length<=4000) (nG:C5 r.b<=900) (hrh:Ct r.a<=1000):Cj (EK oe) 125 [CH cs fs,.agg (Yx r)] S0 (.bool (c8 cs fs r)):=by
 obtain⟨fn,ps,rhs,vs⟩:=r;dsimp only at nG hrh;have uz:=Bo ps;have hlen:=BC (l:=ps);have hsr:YN rhs:=Dl rhs (by omega);have hsp:=Fh ps (by omega);have eI:oe 61 [CH cs fs,.agg (Cf rhs)]=some (.bool (CQ cs fs rhs)):=hq_61 hc hf hsr;have fY:oe 194 [.agg (Cf rhs),.int .i64 vs]=some (.bool (cS vs rhs)):=hq_194 hsr;have wm:oe 195 [Cs ps]=some (.bool (sU ps)):=hq_195 nG;have p8:oe 198 [Cs ps]=some (.agg (Cf (aV ps))):=hq_198;have hwn:Ct (aV ps)<=1000:=by show C5 ps+1<=1000;omega
 have cJ:oe 197 [.agg (Cf (aV ps))]=some (az (Cy (aV ps))):=SY hwn;have wo:oe 196 [.agg (Cf rhs),az (Cy (aV ps))]=some (.bool (gK rhs (Cy (aV ps)))):=hq_196 hrh (Nat.le_trans (Fe _) (by omega));have no1:(cQ fs fn (ps.length:Nat)&&ZZ vs 0 20&&CQ cs fs rhs)=false->c8 cs fs ⟨fn,ps,rhs,vs⟩=false:=fun h=>by unfold c8;dsimp only;rw[h];rfl
 have no2:(ps.all fun p=>CQ cs fs p&&fM p&&cS vs p)=false->c8 cs fs ⟨fn,ps,rhs,vs⟩=false:=fun h=>by unfold c8 qn;dsimp only;rw[h];simp
 have yes0:cQ fs fn (ps.length:Nat)=true->ZZ vs 0 20=true->CQ cs fs rhs=true->(ps.all fun p=>CQ cs fs p&&fM p&&cS vs p)=true->c8 cs fs ⟨fn,ps,rhs,vs⟩=(sU ps&&cS vs rhs&&gK rhs (Cy (aV ps))):=fun h1 h2 h3 h4=>by
  unfold c8 qn;dsimp only;rw[h1,h2,h3,h4];simp
 unfold Yx CH at*;dsimp only at*;rw[Ak rhs]at*;refine As U ?_;cases Z2:ZZ fn 0 ((fs.length:Int)-1)with
 |false=>
  have aZ:(!ZZ fn 0 ((fs.length:Int)-1))=true:=by rw[Z2];rfl
  refine Eh U<|Sq<|Af U<|Nv 1 U<|Ad U GM Eo U U U U (.inl U) U U<|Nv 1 U<|Ad U EC E9 U U U U (.inl U) U U<|Nv 1 U<|Nq (ks U (by omega)) U ?_;refine Na (kC U (Dj)) (.inl U) U ?_;iterate 2 refine Nq (kq U) U ?_
  iterate 11 refine Nk U aZ ?_
  refine Nq (oT U aZ U) U<|Nq (kq U) U ?_;iterate 4 refine Nk U U ?_
  iterate 2 refine Nq (kq U) U ?_
  iterate 5 refine Nk U U ?_
  refine Nq (kq U) U<|CF.done<|Tt U<|Ew U ?_;refine Se (Er U ?_);refine Ab ?_;rw[no1 (by unfold cQ;rw[Z2];rfl)]
 |true=>
  have hb:0<=fn/\fn<=(fs.length:Int)-1:=by
   unfold ZZ at Z2;rw[Qf]at Z2;exact⟨dT Z2.1,dT Z2.2⟩
  obtain⟨m,rfl⟩:∃m:Nat,fn=(m:Int):=⟨fn.natAbs,by omega⟩
  have hm:m<fs.length:=by omega
  have YK:=A6 A0 hm;have Zb:ZZ (m:Int) 0 ((fs.length-1:Nat):Int)=true:=by rw[show((fs.length-1:Nat):Int)=(fs.length:Int)-1 by omega];exact Z2
  have b7:cQ fs (m:Nat) (ps.length:Nat)=decide ((ps.length:Int)=fs[m].2):=by unfold cQ;rw[Z2,Ga hm];rfl
  have aZ:(!ZZ (m:Int) 0 ((fs.length-1:Nat):Int))=false:=by rw[Zb];rfl
  refine Eh U<|BT (D6 (fun _:Unit=>([(2,.Z 0 0),(3,.Z 1 0)],Y9 2 0 [] [(0,some (.J [Cp Cq 2 cs,Cp Cq 2 fs] 40 false)),(1,some (.J [.int .i64 (m:Nat),Cs ps,.int .i64 rhs.op,.int .i64 rhs.n,Cs rhs.u,.int .i64 vs] 115 false))]))
   (fun _=>(cQ fs (m:Nat) (ps.length:Nat)&&ZZ vs 0 20&&CQ cs fs rhs)=true) ?_ ?_)
  .focus
    refine Af (by kernel_rfl)<|Nv 1 U<|Ad U GM Eo U U U U (.inl U) U U<|Nv 1 U<|Ad U EC E9 U U U U (.inl U) U U<|Nv 1 U<|Nq (Aq (b:=1) U aP U U (by omega)) U<|Na (kC U (Dj)) (.inl U) U ?_;iterate 2 refine Nq (kq U) U ?_
    refine Ng U aZ (kq U)<|Ad U Ep En U U U U (AB U U U U aZ) U U ?_;iterate 2 refine Ng U aZ (kq U) ?_
    refine Ad U EC E9 U U U U (AB U U U U aZ) U U<|Ng U aZ (kq U)<|Ad U GM Eo U U U U (AB U U U U aZ) U U<|Ng U aZ (kv U YK) ?_;iterate 3 refine Ng U aZ (kq U) ?_
    refine Nq (oF U aZ U) U<|Nq (kq U) U<|Db U (fun g1=>?_) (fun g1=>?_);have h1:=nT g1;refine Nw U<|Tt U<|Ew U<|Se (Er U<|Ab ?_);rotate_left;have h1:=nF g1;refine Nv 1 U<|Ad U GM Eo U U U U (gG U) U U<|Na (kC U (Dj)) (gG U) U<|Nv 3 U<|Db U (fun g2=>?_) (fun g2=>?_);have h2:=sv g2;refine Nw U<|Tt U<|Ew U<|Se (Er U<|Ab ?_);rotate_left;have h2:=sw g2;refine A9 U Qs Oe U U (Qc U) U (gG U) U U<|Nv 1 U<|A9 U NN Ic U U (Qc U) U (gG U) U U<|Na (kC U (eI)) (gG U) U<|Nw U<|Cn U (fun h3=>?_) (fun h3=>?_);refine Ew U<|Se (Er U ?_);refine Ab ?_;rotate_left;refine Sk ?_;rotate_left
   all_goals first
    |(refine(no1 ?_).symm;rw[b7,Bool.eq_false_iff];simp only[ne_eq,Qf,decide_eq_true_eq];rintro⟨⟨x,y⟩,z⟩;first|contradiction|simp_all)
    |(refine⟨rfl,(),?_,rfl,Ac (by repeat' constructor)⟩;rw[b7];simp only[Qf,decide_eq_true_eq];exact⟨⟨by assumption,by assumption⟩,by assumption⟩)
  .rintro _ h0;rw[Qf,Qf]at h0;have yes:=yes0 h0.1.1 h0.1.2 h0.2;clear yes0 eI Z2 YK Zb aZ b7 no1 hb;dsimp only;refine Sq<|Ew U<|Sb<|Ai (fun i:Nat=>([(5,.int .i64 (i:Nat)),(2,.Z 0 0),(3,.Z 1 0)],Y9 2 0 [] [(0,some (.J [Cp Cq 2 cs,Cp Cq 2 fs] 40 false)),(1,some (.J [.int .i64 (m:Nat),Cs ps,.int .i64 rhs.op,.int .i64 rhs.n,Cs rhs.u,.int .i64 vs] 115 false))])) (fun i=>ps.length-i)
    (fun i=>i<=ps.length/\∀j (hj:j<ps.length),j<i->(CQ cs fs ps[j]&&fM ps[j]&&cS vs ps[j])=true) 0 ⟨Qo _,fun _ _ h=>absurd h (Nat.not_lt_zero _)⟩ rfl (Ac (by trivial)) ?_
   rintro i ⟨hi,ha⟩;dsimp only at hi ha|-;by_cases h':i<ps.length
   .have YK:=BD h';have ot:Ct ps[i]<=1000:=Nat.le_trans (BH (Ql h')) (by omega);have hs:=hsp _ (Ql h');have no:=fun h=>no2 (F9 (f:=fun p=>CQ cs fs p&&fM p&&cS vs p) h' h);clear no2 yes wm p8 cJ wo fY;have eI:oe 61 [.agg [Cp Cq 2 cs,Cp Cq 2 fs],.agg (Cf ps[i])]=some (.bool (CQ cs fs ps[i])):=hq_61 hc hf hs;have wq:oe 193 [.agg (Cf ps[i])]=some (.bool (fM ps[i])):=hq_193 ot hs;have fY:oe 194 [.agg (Cf ps[i]),.int .i64 vs]=some (.bool (cS vs ps[i])):=hq_194 hs;rw[Ak ps[i]]at eI wq fY YK;focus
     refine Sq<|Eh U<|Cd U (fun h1=>?_) (fun h1=>?_);refine Sk<|Sq<|Sb<|Af (by kernel_rfl)<|A9 U Qs Oe U U (Qc U) U (.inl U) U U<|Nv 1 U<|Ad U Ep En U U U U (.inl U) U U<|Nv 1 U<|Nq (kv U YK) U<|Nv 1 U<|Na (kC U (eI)) (.inl U) U<|Nv 2 U<|Db U (fun g2=>?_) (fun g2=>?_);have h2:=sv g2;refine Nw U<|Tt U<|Ew U<|Se (Er U<|Ab ?_);rotate_left;have h2:=sw g2;refine Nv 1 U<|Ad U Ep En U U U U (gG U) U U<|Nv 1 U<|Nz (kv U YK) U U<|Nv 1 U<|Na (kC U (wq)) (gG U) U<|Nv 3 U<|Db U (fun g3=>?_) (fun g3=>?_);have h3:=sv g3;refine Nw U<|Tt U<|Ew U<|Se (Er U<|Ab ?_);rotate_left;have h3:=sw g3;refine Nv 1 U<|Ad U Ep En U U U U (gG U) U U<|Nv 1 U<|Nz (kv U YK) U U<|Nv 2 U<|Ad U GM Eo U U U U (gG U) U U<|Na (kC U (fY)) (gG U) U<|Nw U<|Cn U (fun h4=>?_) (fun h4=>?_);refine Ew U<|Se (Er U<|Ab ?_);rotate_left;refine Sk<|Sr<|qm U<|Lq (ka (b:=1) U (by omega)) U<|Lw U ?_;rotate_left;omega
    all_goals first
     |(refine(no ?_).symm;rw[Bool.eq_false_iff];simp only[ne_eq,Qf];rintro⟨⟨x,y⟩,z⟩;simp_all)
     |(refine⟨i+1,⟨h',BR (P:=fun p=>(CQ cs fs p&&fM p&&cS vs p)=true) (h:=h') ha ?_⟩,by show ps.length-(i+1)<ps.length-i;omega,rfl,rfl,Ac (by trivial)⟩;simp only[Qf];exact⟨⟨by assumption,by assumption⟩,by assumption⟩)
   .have yes:=yes (Ei fun j hj=>ha j hj (by omega));focus
     refine Sq<|Eh U<|Cd U (fun h1=>?_) (fun h1=>?_);omega;refine Sx<|Ax U<|Af (by kernel_rfl)<|Nv 1 U<|Ad U Ep En U U U U (.inl U) U U<|Na (kC U (wm)) (.inl U) U<|Nv 1 U<|Db U (fun g2=>?_) (fun g2=>?_);refine Nv 1 U<|A9 U NN Ic U U (Qc U) U (gG U) U U<|Nv 1 U<|Ad U GM Eo U U U U (gG U) U U<|Na (kC U (fY)) (gG U) U<|Nv 2 U<|Db U (fun g3=>?_) (fun g3=>?_);refine Nv 1 U<|A9 U NN Ic U U (Qc U) U (gG U) U U<|Nv 1 U<|Ad U Ep En U U U U (gG U) U U<|Na (kC U (p8)) (gG U) U<|Na (kC U (cJ)) (gG U) U<|Na (kC U (wo)) (gG U) U<|Nw U<|Se (Er U<|Ab ?_);rotate_left;refine Nw U<|Se (Er U<|Ab ?_);rotate_left;refine Nw U<|Se (Er U<|Ab ?_);rotate_left
    all_goals (rw[yes];simp_all)
noncomputable def xy:=CX oe 125 uk (fun p=> .bool (c8 p.1.1.1 p.1.1.2 p.1.2))
theorem hq_125 {cs fs:List Ci} {r:bw} (hc:cs.length<=4000) (hf:fs.length<=4000) (nG:C5 r.b<=900) (hrh:Ct r.a<=1000):xy 125 [CH cs fs,.agg (Yx r)]=some (.bool (c8 cs fs r)):=
 Aj (enc:=uk) (fun a b h=>by rw[X3 a b h]) ⟨((cs,fs),r),hc,hf,nG,hrh⟩
def dD (p:ZM):Prop:=eG p.a p.c/\p.b.length<=1000/\∀r∈p.b,C5 r.b<=900/\Ct r.a<=1000
def ax (p:ZM):Bool:=al p.a p.c&&(decide (p.b.length<=16)&&p.b.all (c8 p.a p.c))
theorem prog_to (p:ZM) (h:dD p):Cj (EK xy) 60 [.agg (Zf p)] S0 (.bool (ax p)):=by
 obtain⟨cs,fs,rs⟩:=p;obtain⟨hn,hrl,hr⟩:=h;dsimp only at hn hrl hr;have pA:xy 124 [.agg [Cp Cq 2 cs,Cp Cq 2 fs]]=some (.bool (al cs fs)):=hq_124 (fun q hq=>Nat.le_trans (hn.c q hq) (by decide)) fun q hq=>Nat.le_trans (hn.f q hq) (by decide);have bu:=hn.b;have zi:=hn.a;have no:al cs fs=true->rs.all (c8 cs fs)=false->ax ⟨cs,fs,rs⟩=false:=fun h1 h=>by unfold ax;dsimp only;rw[h];simp
 unfold Zf;refine As U ?_;cases hsig:al cs fs with
 |false=>
  rw[hsig]at pA;refine Eh U<|Sq<|Es<|Ls 2 U<|Lo (kc U (pA)) U<|Lw U<|Tt U<|Ew U<|Se (Er U ?_);refine Ab ?_;unfold ax;dsimp only;rw[hsig];rfl
 |true=>
  rw[hsig]at pA;focus
   refine Eh U<|Sq<|Es<|Ls 2 U<|Lo (kc U (pA)) U<|Lx U<|Cd U (fun h1=>?_) (fun h1=>?_);refine Ew U<|Se (Er U<|Ab ?_);rotate_left;refine Sk<|Sq<|Ew U<|Sb ?_;rotate_left
  .unfold ax;dsimp only;rw[show decide (rs.length<=16)=false from decide_eq_false (by dsimp only at*;omega)];simp
  refine Ai (fun i:Nat=>([(3,.int .i64 (i:Nat)),(1,.Z 0 0)],Y9 1 0 [] [(0,some (.J [Cp Cq 2 cs,Cp Cq 2 fs,Cp Yx 6 rs] 43 false))])) (fun i=>rs.length-i) (fun i=>i<=rs.length/\∀j (hj:j<rs.length),j<i->c8 cs fs rs[j]=true) 0 ⟨Qo _,fun _ _ h=>absurd h (Nat.not_lt_zero _)⟩ U (Ac (by trivial)) ?_;rintro i ⟨hi,ha⟩;dsimp only at hi ha|-;by_cases h:i<rs.length
  .have YK:=A6 HJ h;obtain⟨hr1,tO⟩:=hr _ (Ql h);have wu:xy 125 [.agg [Cp Cq 2 cs,Cp Cq 2 fs],.agg (Yx rs[i])]=some (.bool (c8 cs fs rs[i])):=hq_125 (by omega) (by omega) hr1 tO;unfold Yx at YK wu;focus
    refine Sq<|Eh U<|Cd U (fun h2=>?_) (fun h2=>?_);refine Sk<|Sq<|Sb<|Af U<|Nv 1 U<|A9 U Qs Oe U U (Qc U) U (.inl U) U U<|Nv 1 U<|Ad U ag_41 sz_41 U U U U (.inl U) U U<|Nv 1 U<|Nq (kv U YK) U<|Nv 1 U<|Na (kC U (wu)) (.inl U) U<|Nw U<|Cn U (fun h3=>?_) (fun h3=>?_);refine Ew U<|Se (Er U<|Ab ?_);rotate_left;refine Sk<|Sr<|qm U<|Lq (ka (b:=1) U (by omega)) U<|Lw U ?_;rotate_left;omega
   .exact(no hsig (F9 h h3)).symm
   .exact⟨i+1,⟨h,BR (P:=fun r=>c8 cs fs r=true) (h:=h) ha h3⟩,by show rs.length-(i+1)<rs.length-i;omega,rfl,rfl,Ac (by trivial)⟩
  .have ZI:=Ei fun m hm=>ha m hm (by omega);focus
    refine Sq<|Eh U<|Cd U (fun h2=>?_) (fun h2=>?_);omega;refine Sx<|Ax U<|Ew U<|Se (Er U<|Ab ?_);rotate_left
   unfold ax;dsimp only;rw[hsig,ZI,show decide (rs.length<=16)=true from decide_eq_true (by dsimp only at*;omega)];rfl
abbrev SmP:= {p:ZM//dD p}
def rB (p:SmP):List AV:=[.agg (Zf p.1)]
theorem PI (a b:SmP) (h:rB a=rB b):a=b:=Subtype.ext (K8 _ _ (AV.agg.inj (List.cons.inj h).1))
noncomputable def sW:=CX xy 60 rB (fun p=> .bool (ax p.1))
theorem hq_60 {p:ZM} (h:dD p):sW 60 [.agg (Zf p)]=some (.bool (ax p)):=Aj (enc:=rB) (fun a b h=>by rw[PI a b h]) ⟨p,h⟩
theorem pall32 (h:CM Tryz.prog 8 [] (.bool true)):Co Tryz.prog gn sW:=by
 have a1:Co Tryz.prog gn oe:=Al Aw Ag (pall29 h) (fun p:ApT=>apart_to p.1.1 p.1.2 p.2.1 p.2.2) XV (fun _=>rfl);have a2:Co Tryz.prog gn xy:=Al Aw Ag a1 (fun p:RuN=>rule_to p.1.1.1 p.1.1.2 p.1.2 p.2.1 p.2.2.1 p.2.2.2.1 p.2.2.2.2) (fun _=>rfl) (fun _=>rfl);exact Al Aw Ag a2 (fun p:SmP=>prog_to p.1 p.2) (fun _=>rfl) (fun _=>rfl)
def oL (p:ZM) (t:Cc):AV:=if(ax p&&CQ p.a p.c t)=true then(if ZY p.a p.c=true then jS (bg p.a p.c t)else .O [.J [],.int .i64 7])else .O [.J [],.int .i64 2]
abbrev GoT:= {p:ZM×Cc//dD p.1/\Ct p.2<=1000}
def qp (p:GoT):List AV:=[.agg (Zf p.1.1),.agg (Cf p.1.2)]
theorem PK (a b:GoT) (h:qp a=qp b):a=b:=by
 obtain⟨⟨a,t⟩,_⟩:=a;obtain⟨⟨b,u⟩,_⟩:=b;simp only[qp,List.cons.injEq,AV.agg.injEq,and_true]at h;obtain rfl:=K8 _ _ h.1;obtain rfl:=AO _ _ h.2;rfl
theorem Hn {cs fs:List Ci} {t:Cc} (h:CQ cs fs t=true):ZD cs fs t=true:=by
 unfold CQ at h;rw[Qf]at h;exact h.2
theorem rgoal_to (p:ZM) (t:Cc) (h:dD p) (ht:Ct t<=1000):Cj (EK sW) 17 [.agg (Zf p),.agg (Cf t)] S0 (oL p t):=by
 have og:sW 60 [.agg (Zf p)]=some (.bool (ax p)):=hq_60 h;obtain⟨cs,fs,rs⟩:=p;obtain⟨hn,hrl,hr⟩:=h;dsimp only at hn hrl hr;have bu:=hn.b;have zi:=hn.a;have hs:YN t:=Dl t (by omega);have eI:sW 61 [CH cs fs,.agg (Cf t)]=some (.bool (CQ cs fs t)):=hq_61 (by omega) (by omega) hs;have qu:sW 62 [CH cs fs]=some (.bool (ZY cs fs)):=hq_62 (fun q hq=>Nat.le_trans (hn.c q hq) (by decide)) (fun q hq=>Nat.le_trans (hn.f q hq) (by decide)) (by omega) (by omega);have hsrc:CQ cs fs t=true->sW 63 [CH cs fs,.agg (Cf t)]=some (.J (bg cs fs t)):=fun h=>hq_63 hn ht (Hn h);have vf:∀w:Zi,sW 49 [.J w]=some (jS w):=fun w=>hq_49;have hv:oL ⟨cs,fs,rs⟩ t=if(ax ⟨cs,fs,rs⟩&&CQ cs fs t)=true then(if ZY cs fs=true then jS (bg cs fs t)else .O [.J [],.int .i64 7])else .O [.J [],.int .i64 2]:=rfl;rw[hv];clear hv
 generalize ax ⟨cs,fs,rs⟩=b1 at*;unfold Zf CH at*;dsimp only at*;cases ht2:CQ cs fs t with
 |false=>
  rw[ht2]at eI;rw[Ak]at*;refine As U ?_;cases b1
  .refine Eh U<|Sq<|Es<|Ls 1 U<|Lo (kc U (og)) U<|Lw U<|Tt U<|Ew U<|Se ⟨.inl U,U,U,U,_,_,_,(Aa U (Aa U U)),U,U,U⟩
  .refine Eh U<|Sq<|Es<|Ls 1 U<|Lo (kc U (og)) U<|Ls 5 U<|Lg U U (kc U (eI))<|Lw U<|Tt U<|Ew U<|Se ⟨.inl U,U,U,U,_,_,_,(Aa U (Aa U U)),U,U,U⟩
 |true=>
  rw[ht2]at eI;have hit_63:=hsrc ht2;clear hsrc;generalize bg cs fs t=w at*;have vf:=vf w;rw[Ak]at*;refine As U ?_;cases b1
  .refine Eh U<|Sq<|Es<|Ls 1 U<|Lo (kc U (og)) U<|Lw U<|Tt U<|Ew U<|Se ⟨.inl U,U,U,U,_,_,_,(Aa U (Aa U U)),U,U,U⟩
  .cases hb:ZY cs fs
   .rw[hb]at qu;refine Eh U<|Sq<|Es<|Ls 1 U<|Lo (kc U (og)) U<|Ls 5 U<|Lg U U (kc U (eI))<|Lw U<|Tf U<|Sk<|Sq<|Es<|Ls 2 U<|Lo (kc U (qu)) U<|Lw U<|Tt U<|Ew U<|Se ⟨.inl U,U,U,U,_,_,_,(Aa U (Aa U U)),U,U,U⟩
   .rw[hb]at qu;unfold jS at*;by_cases h3:3000<w.length
    .rw[if_pos h3]at*;refine Eh U<|Sq<|Es<|Ls 1 U<|Lo (kc U (og)) U<|Ls 5 U<|Lg U U (kc U (eI))<|Lw U<|Tf U<|Sk<|Sq<|Es<|Ls 2 U<|Lo (kc U (qu)) U<|Lw U<|Tf U<|Sk<|Es<|Ls 3 U<|Lo (kc U (hit_63)) U<|Lo (kc U (vf)) U<|Lw U<|Se ⟨.inl U,U,U,U,_,_,_,(Aa U (Aa U U)),U,U,U⟩
    .rw[if_neg h3]at*;refine Eh U<|Sq<|Es<|Ls 1 U<|Lo (kc U (og)) U<|Ls 5 U<|Lg U U (kc U (eI))<|Lw U<|Tf U<|Sk<|Sq<|Es<|Ls 2 U<|Lo (kc U (qu)) U<|Lw U<|Tf U<|Sk<|Es<|Ls 3 U<|Lo (kc U (hit_63)) U<|Lo (kc U (vf)) U<|Lw U<|Se ⟨.inl U,U,U,U,_,_,_,(Aa U (Aa U U)),U,U,U⟩
noncomputable def um:=CX sW 17 qp (fun p=>oL p.1.1 p.1.2)
theorem hq_17 {p:ZM} {t:Cc} (h:dD p) (ht:Ct t<=1000):um 17 [.agg (Zf p),.agg (Cf t)]=some (oL p t):=Aj (enc:=qp) (fun a b h=>by rw[PK a b h]) ⟨(p,t),h,ht⟩
theorem Rv (p:ZM) (t:Cc):Cm 40 (oL p t)=true:=by
 unfold oL jS;repeat' split
 all_goals rfl
theorem pall33 (h:CM Tryz.prog 8 [] (.bool true)):Co Tryz.prog gn um:=
 Al Aw Ag (pall32 h) (fun p:GoT=>rgoal_to p.1.1 p.1.2 p.2.1 p.2.2) (fun p=>by
  show(Cm 40 (.agg (Zf p.1.1))&&(AV.agg (Cf p.1.2)::[]).all (Cm 40))=true;rw[List.all_cons,AU];rfl) (fun p=>Rv _ _)
end Go.Proofs.YtfhimfcbphepeaaGreatDoor.Ty
open Go Am
namespace Am
def Yy (L:List (Int×Nat)):List Y2:=L.map fun p=>(.int .i64 p.1,.bool true,p.2)
def eY:Nat->List Int->List (Int×Nat)
 |_,[]=>[]
 |k,z::l=>(z,k)::eY (k+1) l
def Z5 (l:List Int):List Y2:=Yy (eY 0 l)
def ey (l:List Int) (z:Int):List Int:=if z∈l then l else l++[z]
abbrev kZ:Kd:= .one (.int .i64)
theorem Dc:∀(k:Nat) (l:List Int),(eY k l).map (·.1)=l
 |_,[]=>rfl
 |k,z::l=>by rw[eY,List.map_cons,Dc (k+1) l]
theorem S7:∀(k:Nat) (l:List Int) (z:Int),eY k (l++[z])=eY k l++[(z,k+l.length)]
 |_,[],_=>rfl
 |k,a::l,z=>by
  rw[List.cons_append,eY,S7 (k+1) l z,List.length_cons,eY,show k+1+l.length=k+(l.length+1) by omega];rfl
theorem Il:∀ {k:Nat} {l:List Int} {p:Int×Nat},p∈eY k l->k<=p.2/\p.2<k+l.length
 |k,z::l,p,h=>by
  rw[eY]at h;rw[List.length_cons];rcases Qk.1 h with rfl|h
  .exact⟨Qj _,by show k<_;omega⟩
  .have:=Il h;omega
theorem dW:∀ {k:Nat} {l:List Int},((eY k l).map (·.2)).Nodup
 |_,[]=>List.nodup_nil
 |k,z::l=>by
  rw[eY,List.map_cons,List.nodup_cons];refine⟨fun h=>?_,dW⟩;obtain⟨p,hp,e⟩:=List.mem_map.1 h;have:=Il hp;have e:p.2=k:=e;omega
theorem eqZ (z x:Int):fh kZ (.int .i64 z) (.int .i64 x)=some (decide (z=x)):=rfl
theorem Jf {z:Int}:∀ {L:List (Int×Nat)},(∀p∈L,p.1≠z)->Zl kZ (.int .i64 z) (Yy L)=some none
 | [],_=>rfl
 |p::L,h=>by
  show(fh kZ (.int .i64 z) (.int .i64 p.1)).bind _=_;rw[eqZ,decide_eq_false (fun e=>h p Qh e.symm),Qe];show(Zl kZ _ (Yy L)).bind _=_;rw[Jf fun q hq=>h q (Qg _ hq)];rfl
theorem HF {z:Int}:∀ {L:List (Int×Nat)},(∃p∈L,p.1=z)->∃n,Zl kZ (.int .i64 z) (Yy L)=some (some (.int .i64 z,.bool true,n))/\(z,n)∈L
 | [],h=>by obtain⟨_,h,_⟩:=h;cases h
 |p::L,h=>by
  have e1:Zl kZ (.int .i64 z) (Yy (p::L))=(Zl kZ (.int .i64 z) (Yy L)).bind fun q=>some (bif decide (z=p.1)then some (.int .i64 p.1,.bool true,p.2)else q):=rfl;by_cases hp:z=p.1
  .subst hp;rw[e1,decide_eq_true rfl];by_cases hx:∃q∈L,q.1=p.1
   .obtain⟨n,h1,_⟩:=HF hx;rw[h1];exact⟨p.2,U,Qh⟩
   .rw[Jf fun q hq e=>hx ⟨q,hq,e⟩];exact⟨p.2,U,Qh⟩
  .obtain⟨q,hq,e⟩:=h;rcases Qk.1 hq with rfl|hq
   .exact absurd e.symm hp
   .obtain⟨n,h1,h2⟩:=HF ⟨q,hq,e⟩;rw[e1,h1,decide_eq_false hp];exact⟨n,U,Qg _ h2⟩
theorem Tl {z:Int} {l:List Int} (h:z∉l):Zl kZ (.int .i64 z) (Z5 l)=some none:=
 Jf fun p hp e=>h (by rw[<-Dc 0 l];exact List.mem_map.2 ⟨p,hp,e⟩)
theorem P8 {z:Int} {l:List Int} (h:z∈l):∃n,Zl kZ (.int .i64 z) (Z5 l)=some (some (.int .i64 z,.bool true,n)):=by
 rw[<-Dc 0 l]at h;obtain⟨p,hp,e⟩:=List.mem_map.1 h;obtain⟨n,h,_⟩:=HF ⟨p,hp,e⟩;exact⟨n,h⟩
theorem NZ {z:Int}:∀ {L:List (Int×Nat)},oO kZ (.int .i64 z) (.bool true) (Yy L)=Yy L
 | []=>rfl
 |p::L=>by
  show(bif B' kZ (.int .i64 z) (.int .i64 p.1,.bool true,p.2)then _ else _)=_;rw[show B' kZ (.int .i64 z) (.int .i64 p.1,.bool true,p.2)=decide (z=p.1)from rfl];by_cases h:z=p.1
  .rw[decide_eq_true h,h];rfl
  .rw[decide_eq_false h,cond_false];show _::oO kZ _ _ (Yy L)=_;rw[NZ];rfl
theorem H2 {st:St} {b:Nat} {l:List Int} {z:Int} (hg:st.heap.u b=some (.O (Z5 l) l.length)):
 eR kZ st (.int .i64 z) (.bool true) (.H_ b)=some (st.B b (some (.O (Z5 (ey l z)) (ey l z).length))):=by
 show gV kZ st b (.int .i64 z) (.bool true) (st.heap.u b)=_;rw[hg];show(Zl kZ _ (Z5 l)).bind _=_;unfold ey;by_cases h:z∈l
 .obtain⟨n,h1⟩:=P8 h;rw[h1,if_pos h];show some (st.B b (some (.O (oO kZ _ _ (Z5 l)) l.length)))=_;unfold Z5;rw[NZ]
 .rw[Tl h,if_neg h];show some (st.B b (some (.O (Z5 l++[(.int .i64 z,.bool true,l.length)]) (l.length+1))))=_;unfold Z5;rw[S7,Qm,Nat.zero_add];unfold Yy;rw[List.map_append];rfl
theorem JX {st:St} {b c:Nat} {l:List Int} {z:Int} (hg:st.heap.u b=some (.O (Z5 l) c)):cF kZ st false (.bool false) (.H_ b) (.int .i64 z)=some (.bool (decide (z∈l))):=by
 show((iB st (.H_ b)).bind fun es=>(Zl _ _ es).bind fun r=>some (j1 false (.bool false) r))=_;rw[show iB st (.H_ b)=some (Z5 l)from by show jy (st.heap.u b)=_;rw[hg];rfl,Qe];by_cases h:z∈l
 .obtain⟨n,h1⟩:=P8 h;rw[h1,decide_eq_true h];rfl
 .rw[Tl h,decide_eq_false h];rfl
theorem IY {l:List Int} {z x:Int}:x∈ey l z↔x=z\/x∈l:=by
 unfold ey;split
 .next h=>exact⟨.inr,fun h'=>h'.elim (fun e=>e▸h) id⟩
 .rw[List.mem_append,Qp];exact Or.comm
theorem LN {l:List Int} {z:Int} (h:l.Nodup):(ey l z).Nodup:=by
 unfold ey;split
 .exact h
 .next hz=>
  refine List.nodup_append.2 ⟨h,List.pairwise_singleton _ _,fun a ha b hb e=>?_⟩;rw[Qp.1 hb]at e;exact hz (e▸ha)
def lW (z:Int):List (Int×Nat)->List (Int×Nat)
 | []=>[]
 |p::L=>if z=p.1 then L else p::lW z L
theorem PM (z:Int):∀L:List (Int×Nat),qE kZ (.int .i64 z) (Yy L)=Yy (lW z L)
 | []=>rfl
 |p::L=>by
  show(bif B' kZ (.int .i64 z) (.int .i64 p.1,.bool true,p.2)then _ else _)=_;rw[show B' kZ (.int .i64 z) (.int .i64 p.1,.bool true,p.2)=decide (z=p.1)from rfl];unfold lW;by_cases h:z=p.1
  .rw[decide_eq_true h,cond_true,if_pos h];rfl
  .rw[decide_eq_false h,cond_false,if_neg h];show _::qE kZ _ (Yy L)=_;rw[PM z L];rfl
theorem NC (z:Int):∀L:List (Int×Nat),(lW z L).Sublist L
 | []=>List.Sublist.refl _
 |p::L=>by
  unfold lW;split
  .exact List.sublist_cons_self _ _
  .exact(NC z L).cons_cons _
theorem ND {z x:Int}:∀ {L:List (Int×Nat)},(L.map (·.1)).Nodup->(x∈(lW z L).map (·.1)↔x∈L.map (·.1)/\x≠z)
 | [],_=>by simp[lW]
 |p::L,h=>by
  rw[List.map_cons,List.nodup_cons]at h;unfold lW;by_cases hz:z=p.1
  .rw[if_pos hz,List.map_cons,Qk];subst hz;constructor
   .intro hx;exact⟨.inr hx,fun e=>h.1 (e▸hx)⟩
   .rintro⟨h1|h1,h2⟩
    .exact absurd h1 h2
    .exact h1
  .rw[if_neg hz,List.map_cons,List.map_cons,Qk,Qk,ND h.2];constructor
   .rintro(e|⟨h1,h2⟩)
    .exact⟨.inl e,fun e2=>hz (e2.symm.trans e)⟩
    .exact⟨.inr h1,h2⟩
   .rintro⟨h1|h1,h2⟩
    .exact .inl h1
    .exact .inr ⟨h1,h2⟩
theorem mapL_del {st:St} {b c:Nat} {L:List (Int×Nat)} {z:Int} (hg:st.heap.u b=some (.O (Yy L) c)):
 ∃Zy,tx kZ st (.int .i64 z) (.H_ b)=some Zy/\(Zy=st/\(∀p∈L,p.1≠z)\/Zy=st.B b (some (.O (Yy (lW z L)) c))):=by
 have h0:tx kZ st (.int .i64 z) (.H_ b)=(Zl kZ (.int .i64 z) (Yy L)).bind fun r=>match r with
  |some _=>some (st.B b (some (.O (qE kZ (.int .i64 z) (Yy L)) c)))
  |none=>some st:=by
  show ya kZ st b (.int .i64 z) (st.heap.u b)=_;rw[hg];rfl
 rw[h0];by_cases hx:∃p∈L,p.1=z
 .obtain⟨n,h1,_⟩:=HF hx;rw[h1,PM];exact⟨_,U,.inr U⟩
 .rw[Jf fun p hp e=>hx ⟨p,hp,e⟩];exact⟨_,rfl,.inl ⟨rfl,fun p hp e=>hx ⟨p,hp,e⟩⟩⟩
theorem pullL {z:Int}:∀ {L:List (Int×Nat)},z∈L.map (·.1)->∃n,pull (.int .i64 z) (Yy L)=some ((.int .i64 z,.bool true,n),Yy (lW z L))
 | [],h=>absurd h List.not_mem_nil
 |p::L,h=>by
  have e1:pull (.int .i64 z) (Yy (p::L))=bif decide (z=p.1)then some ((.int .i64 p.1,.bool true,p.2),Yy L)else(pull (.int .i64 z) (Yy L)).bind fun q=>some (q.1,(.int .i64 p.1,.bool true,p.2)::q.2):=rfl;rw[e1];unfold lW;by_cases hz:z=p.1
  .rw[decide_eq_true hz,cond_true,if_pos hz,<-hz];exact⟨_,U⟩
  .rw[decide_eq_false hz,cond_false,if_neg hz];obtain⟨n,h1⟩:=pullL (L:=L) ((Qk.1 h).resolve_left hz);rw[h1];exact⟨n,U⟩
theorem permL:∀ {L L':List (Int×Nat)},(L.map (·.1)).Nodup->(L'.map (·.1)).Nodup->(∀z,z∈L.map (·.1)↔z∈L'.map (·.1))->Y5 0 (Yy L) (Yy L')=true
 | [],[],_,_,_=>rfl
 | [],p::L',_,_,h=>absurd ((h p.1).2 Qh) List.not_mem_nil
 |p::L,L',h1,h2,h=>by
  rw[List.map_cons,List.nodup_cons]at h1;obtain⟨n,hp⟩:=pullL ((h p.1).1 Qh);have ih:=permL (L:=L) (L':=lW p.1 L') h1.2 (h2.sublist ((NC p.1 L').map _)) fun z=>by
   rw[ND h2];constructor
   .intro hz;exact⟨(h z).1 (Qg _ hz),fun e=>h1.1 (e▸hz)⟩
   .rintro⟨hz,ZT⟩;exact(Qk.1 ((h z).2 hz)).resolve_left ZT
  show(match pull (.int .i64 p.1) (Yy L')with
   |some q=>eK (.bool true) (some q.1.2.1)&&km 0 p.2 q.1.2.2&&Y5 0 (Yy L) q.2
   |none=>false)=true
  rw[hp];show(true&&(Nat.beq p.2 n||(Nat.ble 0 p.2&&Nat.ble 0 n))&&Y5 0 (Yy L) (Yy (lW p.1 L')))=true;rw[ih,show Nat.ble 0 p.2=true from Qd (Qo _),show Nat.ble 0 n=true from Qd (Qo _)];simp
theorem V2 {c:Nat}:∀ {L:List (Int×Nat)},(∀p∈L,p.2<c)->(L.map (·.2)).Nodup->YD c (Yy L)=true
 | [],_,_=>rfl
 |p::L,h,hn=>by
  rw[List.map_cons,List.nodup_cons]at hn;have bG:∀ {M:List (Int×Nat)},p.2∉M.map (·.2)->iH p.2 (Yy M)=true:=by
   intro M;induction M with
   |nil=>intro _;rfl
   |cons q M ih=>
    intro hq;rw[List.map_cons,Qk]at hq;show(!(Nat.beq p.2 q.2)&&iH p.2 (Yy M))=true;rw[ih fun e=>hq (.inr e),show Nat.beq p.2 q.2=false from by rw[<-Bool.not_eq_true,Nat.beq_eq];exact fun e=>hq (.inl e)];rfl
  show(Nat.blt p.2 c&&iH p.2 (Yy L)&&YD c (Yy L))=true;rw[bG hn.1,V2 (fun q hq=>h q (Qg _ hq)) hn.2,show Nat.blt p.2 c=true from by rw[Nat.blt_eq];exact h p Qh];rfl
theorem underL (m c:Nat) (L:List (Int×Nat)):cg m (some (.O (Yy L) c))=true:=by
 show(Yy L).all _=true;unfold Yy;rw[List.all_map];exact List.all_eq_true.2 fun _ _=>rfl
theorem mergeB {m:Nat} {l l':List Int} (h:l.Nodup) (h':l'.Nodup) (hm:∀z,z∈l↔z∈l'):l.length=l'.length/\Y5 0 (Z5 l) (Z5 l')=true/\YD l.length (Z5 l)=true/\cg m (some (.O (Z5 l) l.length))=true:=
 ⟨((List.perm_ext_iff_of_nodup h h').2 hm).length_eq,permL (by rw[Dc];exact h) (by rw[Dc];exact h') (by rw[Dc,Dc];exact hm),V2 (fun p hp=>by have:=Il hp;omega) dW,underL _ _ _⟩
def c9 (seen:List Nat):List (Int×Nat)->List (Int×Nat)
 | []=>[]
 |p::L=>if p.2∈seen then c9 seen L else p::c9 seen L
theorem On {n:Nat}:∀ {l:List Nat},ft n l=decide (n∈l)
 | []=>rfl
 |k::l=>by
  unfold ft;by_cases h:k=n
  .rw[h,Nat.beq_refl,cond_true,decide_eq_true Qh]
  .rw[show Nat.beq k n=false from by rw[<-Bool.not_eq_true,Nat.beq_eq];exact h,cond_false,On];exact decide_eq_decide.2 ⟨Qg _,fun hm=>(Qk.1 hm).elim (fun e=>absurd e.symm h) id⟩
theorem ER (seen:List Nat):∀L:List (Int×Nat),YY seen (Yy L)=Yy (c9 seen L)
 | []=>rfl
 |p::L=>by
  show(bif ft p.2 seen then YY seen (Yy L)else _::YY seen (Yy L))=_;rw[ER seen L,On,c9];by_cases h:p.2∈seen
  .rw[decide_eq_true h,if_pos h];rfl
  .rw[decide_eq_false h,if_neg h];rfl
theorem HA {seen:List Nat} {p:Int×Nat}:∀ {L:List (Int×Nat)},p∈c9 seen L↔p∈L/\p.2∉seen
 | []=>by simp[c9]
 |q::L=>by
  unfold c9;by_cases h:q.2∈seen
  .rw[if_pos h,HA,Qk];exact⟨fun⟨a,b⟩=>⟨.inr a,b⟩,fun⟨a,b⟩=>⟨a.resolve_left fun e=>b (e▸h),b⟩⟩
  .rw[if_neg h,Qk,Qk,HA];exact⟨fun e=>e.elim (fun e=>⟨.inl e,e▸h⟩) fun⟨a,b⟩=>⟨.inr a,b⟩,fun⟨a,b⟩=>a.imp id fun a=>⟨a,b⟩⟩
theorem U0 {seen:List Nat} {p:Int×Nat}:∀ {L:List (Int×Nat)},(c9 (seen++[p.2]) L).length<=(c9 seen L).length/\(p∈c9 seen L->(c9 (seen++[p.2]) L).length<(c9 seen L).length)
 | []=>⟨Qj _,fun h=>absurd h List.not_mem_nil⟩
 |q::L=>by
  obtain⟨h1,h2⟩:=U0 (seen:=seen) (p:=p) (L:=L);unfold c9;by_cases h:q.2∈seen
  .rw[if_pos h,if_pos (List.mem_append_left _ h)];exact⟨h1,h2⟩
  .rw[if_neg h];by_cases hq:q.2=p.2
   .rw[if_pos (by rw[hq];exact List.mem_append_right _ (Qp.2 rfl)),List.length_cons];exact⟨by omega,fun _=>by omega⟩
   .rw[if_neg (by rw[List.mem_append,Qp];exact fun e=>e.elim h hq),List.length_cons,List.length_cons];refine⟨by omega,fun hm=>?_⟩;rcases Qk.1 hm with e|hm
    .exact absurd (by rw[<-e]) hq
    .have:=h2 hm;omega
theorem Pf (l:List Nat) (n:Nat):qZ (l++[n])=some n:=by
 induction l with
 |nil=>rfl
 |cons a l ih=>
  rw[List.cons_append];cases hl:l++[n]with
  |nil=>simp at hl
  |cons b r=>
   rw[hl]at ih;exact ih
theorem stampL {p:Int×Nat}:∀ {L:List (Int×Nat)},p∈L->(L.map (·.2)).Nodup->dh p.2 (Yy L)=some (.int .i64 p.1,.bool true,p.2)
 |q::L,h,hn=>by
  rw[List.map_cons,List.nodup_cons]at hn;show(bif Nat.beq q.2 p.2 then some (AV.int .i64 q.1,AV.bool true,q.2)else dh p.2 (Yy L))=_;rcases Qk.1 h with rfl|h
  .rw[Nat.beq_refl,cond_true]
  .have ZT:q.2≠p.2:=fun e=>hn.1 (by rw[e];exact List.mem_map.2 ⟨p,h,rfl⟩);rw[show Nat.beq q.2 p.2=false from by rw[<-Bool.not_eq_true,Nat.beq_eq];exact ZT,cond_false,stampL h hn.2]
theorem Tu {st:St} {r m c:Nat} {seen:List Nat} {L:List (Int×Nat)} {p:Int×Nat} (hr:st.heap.u r=some (.Y1 (some m) c (seen++[p.2]) c)) (hm:st.heap.u m=some (.O (Yy L) c)) (hp:p∈L) (hn:(L.map (·.2)).Nodup):
 j3 st (.Z r 0)=some (.O [.int .i64 p.1,.bool true]):=by
 show mr st (st.heap.u r)=_;rw[hr];show(qZ (seen++[p.2])).bind (fun n=>pc c n (st.heap.u m))=_;rw[Pf,Qe,hm];show(bif Nat.beq c c then _ else _)=_;rw[Nat.beq_refl,cond_true,stampL hp hn];rfl
section
variable {E : a_} {fr : Fr} {l : Sl} {s : St} {o : Oper}
theorem HX {it:Operand} {a v:AV} (ho:o.op= .entry it) (hx:Cg it l=some a) (hv:j3 s a=some v):ZU E o fr l s v s:=fun T hT=>
 ⟨0,fun n _ k=>by
  rw[ho];show ZR (fun v=>k.run (ev E n) fr T v s) ((Ch E it T).bind (j3 s))=_;rw[Ae hT hx,Qe,hv];rfl⟩
theorem E8 {t k e:TypeId} {x:Operand} {b c:Nat} {es:List Y2} (ho:o.op= .range t x) (hu:CS E t=some (.map k e)) (hx:Cg x l=some (.H_ b)) (hg:s.heap.u b=some (.O es c)):
 ZU E o fr l s (.Z s.a 0) (s.A (.Y1 (some b) c [] c)):=fun T hT=>
 E6 (b:=false) (x:=E_) (f:=fun T s=>(Ch E x T).bind (Am.rangeMap s)) (by
  rw[ho];show l7 E t x=_;unfold l7;rw[hu]) (by
   rw[Ae hT hx,Qe];show(match s.heap.u b with
    |some (.O _ clock)=>some (AV.Z s.a 0,s.A (.Y1 (some b) clock [] clock))
    |_=>none)=_
   rw[hg])
theorem Vc {c:Call} {t k e:TypeId} {ts:List TypeId} {kd:Kd} {x y:Operand} {a b:AV} {s':St} (ho:o.op= .call c) (hc:c.callee= .builtin .delete) (ht:c.argTypes.toList=t::ts) (ha:c.args.toList=[x,y]) (hu:CS E t=some (.map k e)) (hk:eC E k=some kd)
 (hx:Cg x l=some a) (hy:Cg y l=some b) (hv:tx kd s b a=some s'):ZU E o fr l s (.O []) s':=fun T hT=>
 E6 (b:=true) (x:=Ch E x) (f:=fun T s=>(Ch E x T).bind fun a=>(Ch E y T).bind fun b=>ja (tx kd s b a)) (by
  rw[ho];show YC E o.type c=_;unfold YC;rw[hc];simp only;rw[ht,ha];show yb E t x y=_;unfold yb;rw[hu];simp only[hk]) (by simp only[Ae hT hx,Ae hT hy,Qe,hv,ja])
theorem CE.cutEX {Q:Ex->Fr->Sl->St->Prop} {a b:Code} {α:Type} (I:α->Sl×St) (G:α->Prop) (h1:CE E a fr l s fun ex ZN l' s'=>match ex with
 | .J=>ZN=fr/\∃x,G x/\s'=(I x).2/\∀p∈(I x).1,e_ p.1 l'=some p.2
 |ex=>Q ex ZN l' s') (h2:∀x,G x->CE E b fr (I x).1 (I x).2 Q):CE E a fr l s (SeqM E b Q):=
 (h1.mono fun ex ZN l' s' h=>by
  cases ex with
  |J=>
   obtain⟨e2,x,g,e3,e4⟩:=h;subst e2 e3;exact CE.sub (h2 x g) e4
  |_=>exact h)
end
structure rC (s:St) (b p:Nat) (tc:List AV) (ty:TypeId) (st:St):Prop where
 f:s.a<=p
 g:b<s.a
 a:p<st.a
 c:st.b=s.a
 e:∀x∈st.c,x=b
 i:∀x,x<s.a->x≠b->st.heap.u x=s.heap.u x
 same:st.c=[]->st.heap.u b=s.heap.u b
 d:st.heap.u p=some (.J tc ty false)
theorem Ik {st:St} {x:Nat} {o:Option Cv} (h:st.b<=x):(st.B x o).c=st.c:=by
 show(bif Nat.blt x st.b then Z7 x st.c else st.c)=_;rw[show Nat.blt x st.b=false from by rw[<-Bool.not_eq_true,Nat.blt_eq];omega,cond_false]
theorem A8 {st:St} {x y:Nat} {o:Option Cv} (h:y≠x):(st.B x o).heap.u y=st.heap.u y:=by
 show(st.heap.A x o).u y=_;rw[Ap,if_neg h]
theorem Bz {st:St} {x:Nat} {o:Option Cv}:(st.B x o).heap.u x=o:=by
 show(st.heap.A x o).u x=_;rw[Ap,if_pos rfl]
section
variable {s st Zy : St} {b p x : Nat} {tc : List AV} {ty : TypeId} {o : Cv}
theorem rC.u (h:rC s b p tc ty st):rC s b p tc ty (st.A o):=by
 have hn:∀y,y<st.a->(st.A o).heap.u y=st.heap.u y:=fun y hy=>by
  show(st.heap.A st.a _).u y=_;rw[Ap,if_neg (by omega)]
 have:=h.f;have:=h.g;have:=h.a;exact⟨h.f,h.g,Nat.lt_succ_of_lt h.a,h.c,h.e,fun y hy ZT=>(hn y (by omega)).trans (h.i y hy ZT),fun hl=>(hn b (by omega)).trans (h.same hl),(hn p h.a).trans h.d⟩
theorem rC.B {oo:Option Cv} (h:rC s b p tc ty st) (hx:p<x):rC s b p tc ty (st.B x oo):=by
 have:=h.f;have:=h.g;have hl:(st.B x oo).c=st.c:=Ik (by rw[h.c];omega);exact⟨h.f,h.g,h.a,h.c,fun y hy=>h.e y (hl▸hy),fun y hy ZT=>(A8 (by omega)).trans (h.i y hy ZT),fun ck=>(A8 (by omega)).trans (h.same (hl▸ck)),(A8 (by omega)).trans h.d⟩
theorem rC.uo {oo:Option Cv} (h:rC s b p tc ty st):rC s b p tc ty (st.B b oo):=by
 have:=h.f;have:=h.g;have ZT:(st.B b oo).c≠ []:=LQ (.inr (by rw[h.c];exact h.g));refine⟨h.f,h.g,h.a,h.c,fun y hy=>?_,fun y hy ZT=>(A8 ZT).trans (h.i y hy ZT),fun hl=>absurd hl ZT,(A8 (by omega)).trans h.d⟩;have hy:y∈(bif Nat.blt b st.b then Z7 b st.c else st.c):=hy;cases hb:Nat.blt b st.b with
 |true=>
  rw[hb,cond_true]at hy;rcases SJ hy with e|hy
  .exact e
  .exact h.e y hy
 |false=>rw[hb,cond_false]at hy;exact h.e y hy
theorem rC.wr {m:Nat} (h:rC s b p tc ty st) (hm:p<m) (w:Wr1 m st Zy):rC s b p tc ty Zy:=by
 have:=h.f;have:=h.g;have:=h.a;have:=w.a;exact⟨h.f,h.g,by omega,w.d.trans h.c,fun y hy=>h.e y (w.c▸hy),fun y hy ZT=>(w.e y (by omega) (by omega)).trans (h.i y hy ZT),fun hl=>(w.e b (by omega) (by omega)).trans (h.same (w.c▸hl)),(w.e p h.a (by omega)).trans h.d⟩
theorem rC.A {G:List Y2->Nat->Prop} {ex:Ex} {fr:Fr} {l:Sl} {es:List Y2} {c:Nat} (h:rC s b p tc ty st) (hg:st.heap.u b=some (.O es c)) (hG:G es c) (hex:ex= .Z\/ex= .J) (hd:fr.defers=[]):EndW s b G ex fr l st:=
 ⟨hex,hd,by have:=h.f;have:=h.a;omega,h.e,h.same,h.i,es,c,hg,hG⟩
end
end Am
namespace Go.Proofs.YtfhimfcbphepeaaGreatDoor.Ty
theorem JO:∀ {L:List (Int×Nat)} {x w:Int×Nat},(L.map (·.2)).Nodup->x∈L->w∈L->x.2=w.2->x=w
 |q::L,x,w,hn,hx,hw,e=>by
  rw[List.map_cons,List.nodup_cons]at hn;rcases Qk.1 hx with e1|xI
  .rcases Qk.1 hw with e2|ku
   .rw[e1,e2]
   .exact absurd (List.mem_map.2 ⟨w,ku,by rw[<-e,e1]⟩) hn.1
  .rcases Qk.1 hw with e2|ku
   .exact absurd (List.mem_map.2 ⟨x,xI,by rw[e,e2]⟩) hn.1
   .exact JO hn.2 xI ku e
def GF (t:Cc) (es:List Y2) (c:Nat):Prop:=∃zs:List Int,es=Z5 zs/\c=zs.length/\zs.Nodup/\∀z,z∈zs↔z∈Cy t
def RF (t:Cc) (s:St) (b:Nat) (v:AV) (s':St):Prop:=v= .O []/\Wr1 b s s'/\∃es c,s'.heap.u b=some (.O es c)/\GF t es c
theorem free_to (d:Nat):∀(t:Cc),CL t<=d->Ct t<=1000->∀(s:St) (b:Nat),b<s.a->s.b<=b->s.heap.u b=some (.O [] 0)->CD (EK um) 268 [.H_ b,.agg (Cf t)] s (RF t s b):=by
 induction d with
 |zero=>intro t h;have:=Dt t;omega
 |succ d ih=>
 rintro⟨o,n,ks⟩ hd hn s b hb tf hg;have lh:Yl ks<=d:=by have:Yl ks+1<=d+1:=hd;omega
 have hnk:C5 ks+1<=1000:=hn;have uz:=Bo ks;have hlen:=BC (l:=ks);rw[Ak];refine CD.merged (fn:=Tryz.f268) (G:=GF (.mk o n ks)) U U U U U U U hb tf hg ?_ ?_
 .rintro es c fI c' ⟨zs,rfl,rfl,h1,h2⟩ ⟨zs',rfl,rfl,h3,h4⟩;exact mergeB h1 h3 fun z=>(h2 z).trans (h4 z).symm
 have hF0:rC s b s.a [.int .i64 o,.int .i64 n,Cs ks] 47 (s.u.A (.J [.int .i64 o,.int .i64 n,Cs ks] 47 false)):=by
  refine⟨Qj _,hb,Nat.lt_succ_self _,rfl,fun x hx=>absurd hx List.not_mem_nil,fun x hx _=>?_,fun _=>?_,?_⟩
  .show(s.heap.A s.a _).u x=_;rw[Ap,if_neg (by omega)]
  .show(s.heap.A s.a _).u b=_;rw[Ap,if_neg (by omega)]
  .show(s.heap.A s.a _).u s.a=_;rw[Ap,if_pos rfl]
 have tK:(s.u.A (.J [.int .i64 o,.int .i64 n,Cs ks] 47 false)).heap.u b=some (.O (Z5 []) 0):=by
  show(s.heap.A s.a _).u b=_;rw[Ap,if_neg (by omega)];exact hg
 refine CE.seq (CE.of ?_);refine Sr<|Lo (ZU.box U U U) U<|Ld ?_;obtain⟨p,hp⟩:∃p,p=s.a:=⟨_,rfl⟩
 obtain⟨st,Zc⟩:∃st,st=s.u.A (.J [.int .i64 o,.int .i64 n,Cs ks] 47 false):=⟨_,rfl⟩
 refine CE.at (s':=st) (l':=[(3,.Z p 0),(0,.H_ b)]) Zc.symm (by rw[hp];(refine Am.Ac ?_;repeat (first|exact trivial|refine⟨U,?_⟩))) ?_;rw[<-hp,<-Zc]at hF0;rw[<-Zc]at tK;clear Zc;have wv:=hF0.d;by_cases ho:o=1
 .subst ho;refine CE.of ?_;have hms:=H2 (z:=n) tK;have hv:∀z,z∈ey [] n↔z∈Cy (.mk 1 n ks):=fun z=>by rw[IY,Cy,if_pos rfl,Qp];simp
  refine Sq<|Es<|Lv 1 U<|Lo (kl U wv U) U<|Lw U<|Tt U<|Es<|Lv 2 U<|Lo (kl U wv U) U<|Ln (AT (.inl U) QH sE U U U hms) U<|Ld ?_;exact Se (hF0.uo.A Bz ⟨_,U,U,LN List.nodup_nil,hv⟩ (.inl U) U)
 have wI:∀z,z∈Cy (.mk o n ks)↔∃j,∃h:j<ks.length,z∈Cy ks[j]/\¬(o=8/\j=1/\z=n):=fun z=>MK ho;refine CE.seq (CE.of ?_);focus
  refine Es<|Lv 1 U<|Lo (kl U wv U) U<|Lw U<|Cd U (fun h1=>?_) (fun h1=>?_);omega;refine Sk ?_;rotate_left
 refine CE.seq (CE.of ?_);refine Sr<|Lv 1 U<|Lo (kl U wv U) U<|Lw U<|CE.block (CE.tZ (fun x:Nat×List Int×St=>([(17,.int .i64 (x.1:Nat)),(16,.int .i64 (ks.length:Nat)),(15,Cs ks),(3,.Z p 0),(0,.H_ b)],x.2.2)) (fun x=>ks.length-x.1)
  (fun x=>x.1<=ks.length/\rC s b p [.int .i64 o,.int .i64 n,Cs ks] 47 x.2.2/\x.2.2.heap.u b=some (.O (Z5 x.2.1) x.2.1.length)/\x.2.1.Nodup/\∀z,z∈x.2.1↔∃j,∃h:j<ks.length,j<x.1/\z∈Cy ks[j]/\¬(o=8/\j=1/\z=n))
  (0,[],st) ⟨Qo _,hF0,tK,List.nodup_nil,fun z=>⟨fun h=>absurd h List.not_mem_nil,fun⟨j,_,h,_⟩=>absurd h (Nat.not_lt_zero _)⟩⟩ rfl (Ac (by trivial)) ?_)
 clear hF0 tK wv;rintro⟨i,zs,st⟩ ⟨hi,hF,hm,cW,aM⟩;dsimp only at hi hF hm cW aM|-;have wv:=hF.d;by_cases h:i<ks.length
 .have YK:=BD h;rw[Ak]at YK;refine CE.seq (CE.of ?_);refine Sr<|Lw U<|CE.seq (CE.of ?_);focus
   refine Cd U (fun h2=>?_) (fun h2=>?_);refine Sk ?_;rotate_left;omega
  refine CE.seq (CE.block ?_);have cm:(st.A (.J [.int .i64 0,.int .i64 0,.Ca] 47 false)).heap.u st.a=some (.J [.int .i64 0,.int .i64 0,.Ca] 47 false):=A1;refine CE.seq (CE.of ?_);refine Sr<|qm U<|Lq (kv U YK) U<|Lv 1 U<|Lo (kz U) U<|qa U<|Ln (kw U cm U) U<|Ld<|CE.seq (CE.of ?_);refine Sr<|Lo (D5 U QH) U<|Lw U ?_;have hpn:=hF.a;have hpb:=hF.f;obtain⟨q,hq⟩:∃q,q=st.a:=⟨_,rfl⟩
  obtain⟨ie,jG⟩:∃ie,ie=((st.A (.J [.int .i64 0,.int .i64 0,.Ca] 47 false)).B st.a (some (.J (Cf ks[i]) 47 false))).A (.O [] 0):=⟨_,rfl⟩
  refine CE.at (s':=ie) (l':=[(6,.H_ (q+1)),(5,.Z q 0),(4,.int .i64 (i:Nat)),(17,.int .i64 (i:Nat)),(16,.int .i64 (ks.length:Nat)),(15,Cs ks),(3,.Z p 0),(0,.H_ b)]) (by rw[jG,Ak];rfl) (by rw[hq];(refine Am.Ac ?_;repeat (first|exact trivial|refine⟨U,?_⟩))) ?_;have hF2:rC s b p [.int .i64 o,.int .i64 n,Cs ks] 47 ie:=by rw[jG];exact(hF.u.B hpn).u
  have kP:ie.a=q+2:=by rw[jG,hq];rfl
  have jA:ie.heap.u b=some (.O (Z5 zs) zs.length):=by
   rw[jG,Au (by show b<st.a+1;omega),A8 (by omega),Au (by omega)];exact hm
  have uR:ie.heap.u q=some (.J (Cf ks[i]) 47 false):=by
   rw[jG,Au (by show q<st.a+1;omega),hq,Bz]
  have uS:ie.heap.u (q+1)=some (.O [] 0):=by
   rw[jG,hq];exact A1
  clear jG cm hm wv;have hIH:=ih ks[i] (Nat.le_trans (Bg (Ql h)) lh) (Nat.le_trans (BH (Ql h)) (by omega)) ie (q+1) (by omega) (by rw[hF2.c];omega) uS;rw[Ak]at uR hIH;refine CE.seq (CE.of ?_);refine Sr<|qm U<|Lo (kL U uR U) U<|kf U (CD.mono hIH ?_);rintro v st3 ⟨rfl,hw,es,c,gz,zk,rfl,rfl,hk1,hk3⟩;have hF3:=hF2.wr (by omega) hw;have xC:st3.heap.u b=some (.O (Z5 zs) zs.length):=(hw.e b (by omega) (by omega)).trans jA;have wW:q+2<=st3.a:=kP▸hw.a;have wv:=hF3.d;clear hIH uR uS jA hF2 hF hw;refine Ld<|CE.seq (CE.cutEX (fun x:List (Int×Nat)×St=>([(6,.H_ (q+1)),(4,.int .i64 (i:Nat)),(17,.int .i64 (i:Nat)),(16,.int .i64 (ks.length:Nat)),(15,Cs ks),(3,.Z p 0),(0,.H_ b)],x.2))
   (fun x=>rC s b p [.int .i64 o,.int .i64 n,Cs ks] 47 x.2/\x.2.heap.u b=some (.O (Z5 zs) zs.length)/\x.2.heap.u (q+1)=some (.O (Yy x.1) zk.length)/\q+2<=x.2.a/\(x.1.map (·.2)).Nodup/\∀z,z∈x.1.map (·.1)↔z∈Cy ks[i]/\¬(o=8/\i=1/\z=n)) (CE.of ?_) ?_)
  .have hfk:∀z,z∈(eY 0 zk).map (·.1)↔z∈Cy ks[i]:=fun z=>by rw[Dc];exact hk3 z
   have hnk:((eY 0 zk).map (·.1)).Nodup:=by rw[Dc];exact hk1
   obtain⟨st4,jt,po⟩:=mapL_del (z:=n) gz;focus
    refine Es<|Lv 1 U<|Lo (kl U wv U) U<|Lv 2 U<|Bd U (fun h3=>?_) (fun h3=>?_);refine Lw U<|Cd U (fun h4=>?_) (fun h4=>?_);refine Sr<|Lv 2 U<|Lo (kl U wv U) U ?_;rotate_left;refine Sk ?_;rotate_left;refine Lw U<|Tf U<|Sk ?_;rotate_left
   .refine Ln (Vc U U U U QH sE U U jt) U<|Ld ?_;rcases po with⟨rfl,bG⟩|rfl
    .exact⟨rfl,(eY 0 zk,st4),⟨hF3,xC,gz,wW,dW,fun z=>(hfk z).trans ⟨fun hz=>⟨hz,fun⟨_,_,e⟩=>by
      obtain⟨w,ku,zA⟩:=List.mem_map.1 ((hfk z).2 hz);exact bG w ku (zA.trans e)⟩,fun hz=>hz.1⟩⟩,rfl,Ac (by trivial)⟩
    .exact⟨rfl,(lW n (eY 0 zk),st3.B (q+1) (some (.O (Yy (lW n (eY 0 zk))) zk.length))),⟨hF3.B (by omega),(A8 (by omega)).trans xC,Bz,wW,dW.sublist ((NC n _).map _),fun z=>by
      rw[ND hnk,hfk z];exact⟨fun⟨hz,ZT⟩=>⟨hz,fun⟨_,_,e⟩=>ZT e⟩,fun⟨hz,ZT⟩=>⟨hz,fun e=>ZT ⟨by omega,by omega,e⟩⟩⟩⟩,rfl,Ac (by trivial)⟩
   all_goals exact⟨rfl,(eY 0 zk,st3),⟨hF3,xC,gz,wW,dW,fun z=>(hfk z).trans ⟨fun hz=>⟨hz,fun⟨e1,e2,_⟩=>by omega⟩,fun hz=>hz.1⟩⟩,rfl,Ac (by trivial)⟩
  rintro⟨L,st4⟩ ⟨hF4,xG,hm4,hn4,hs4,hk4⟩;dsimp only at hF4 xG hm4 hn4 hs4 hk4|-;clear hF3 xC gz wv wW;refine CE.seq (CE.of ?_);refine Sr<|qm U<|Lo (E8 U QH U hm4) U<|Ld ?_;obtain⟨r,hr⟩:∃r,r=st4.a:=⟨_,rfl⟩
  obtain⟨st5,kT⟩:∃st5,st5=st4.A (.Y1 (some (q+1)) zk.length [] zk.length):=⟨_,rfl⟩
  have hpn5:=hF4.a;have hbn5:=hF4.g;refine CE.block (CE.tZ (fun x:List Nat×List Int×St=>([(37,.Z r 0),(17,.int .i64 (i:Nat)),(16,.int .i64 (ks.length:Nat)),(15,Cs ks),(3,.Z p 0),(0,.H_ b)],x.2.2)) (fun x=>(c9 x.1 L).length)
   (fun x=>rC s b p [.int .i64 o,.int .i64 n,Cs ks] 47 x.2.2/\x.2.2.heap.u b=some (.O (Z5 x.2.1) x.2.1.length)/\x.2.1.Nodup/\x.2.2.heap.u (q+1)=some (.O (Yy L) zk.length)/\x.2.2.heap.u r=some (.Y1 (some (q+1)) zk.length x.1 zk.length)/\r<x.2.2.a/\
    (∀z,z∈zs->z∈x.2.1)/\(∀z,z∈x.2.1->z∈zs\/z∈L.map (·.1))/\∀p∈L,p.2∈x.1->p.1∈x.2.1)
   ([],zs,st5) ⟨by rw[kT];exact hF4.u,by rw[kT,Au (by omega)];exact xG,cW,by rw[kT,Au (by omega)];exact hm4,by rw[kT,hr];exact A1,by rw[kT,hr];exact Nat.lt_succ_self _,fun _ h=>h,fun _ h=> .inl h,fun _ _ h=>absurd h List.not_mem_nil⟩ (by rw[kT]) (by rw[hr];(refine Am.Ac ?_;repeat (first|exact trivial|refine⟨rfl,?_⟩))) ?_)
  have tj:q+2<=r:=by rw[hr];exact hn4
  clear kT hr hF4 xG hm4 hn4 hpn5 hbn5;rintro⟨seen,ys,st⟩ ⟨hF,dG,hnd',hm,u6,u7,h1,h2,h3⟩;dsimp only at hF dG hnd' hm u6 u7 h1 h2 h3|-;refine CE.seq (CE.next U U U U U U u6 hm (fun hL=>?_) fun e he=>?_)
  .refine Lw U<|CE.of<|Sq<|Tf U<|Sx<|Ax U<|CE.of<|Sr<|Lq (ka (b:=1) U (by omega)) U<|Lw U ?_;rw[ER]at hL;have hL:c9 seen L=[]:=List.map_eq_nil_iff.1 hL;refine⟨(i+1,ys,st),⟨h,hF,dG,hnd',fun z=>⟨fun hz=>?_,fun⟨j,hj,hji,hz,ZT⟩=>?_⟩⟩,by show ks.length-(i+1)<ks.length-i;omega,rfl,rfl,Ac (by trivial)⟩
   .rcases h2 z hz with hz|hz
    .obtain⟨j,hj,hji,e1,e2⟩:=(aM z).1 hz;exact⟨j,hj,Nat.lt_succ_of_lt hji,e1,e2⟩
    .obtain⟨e1,e2⟩:=(hk4 z).1 hz;exact⟨i,h,Nat.lt_succ_self i,e1,e2⟩
   .have hji:j<i+1:=hji;rcases Nat.lt_or_eq_of_le (Nat.le_of_lt_succ hji)with hji|rfl
    .exact h1 z ((aM z).2 ⟨j,hj,hji,hz,ZT⟩)
    .obtain⟨w,ku,zA⟩:=List.mem_map.1 ((hk4 z).2 ⟨hz,ZT⟩);have hw3:w.2∈seen:=by
      by_cases hs:w.2∈seen
      .exact hs
      .have:=(HA (seen:=seen)).2 ⟨ku,hs⟩;rw[hL]at this;exact absurd this List.not_mem_nil
     have:=h3 w ku hw3;rwa[zA]at this
  .rw[ER]at he;obtain⟨w,hw,rfl⟩:=List.mem_map.1 he;obtain⟨ku,zA⟩:=HA.1 hw;dsimp only;refine Lw U ?_;obtain⟨jj,cD⟩:∃jj,jj=st.B r (some (.Y1 (some (q+1)) zk.length (seen++[w.2]) zk.length)):=⟨_,rfl⟩
   have hpb:=hF.g;have hpn:=hF.f;refine CE.at (s':=jj) (l':=[(39,.bool true),(37,.Z r 0),(17,.int .i64 (i:Nat)),(16,.int .i64 (ks.length:Nat)),(15,Cs ks),(3,.Z p 0),(0,.H_ b)]) cD.symm (Ac (by trivial)) ?_;have hF6:rC s b p [.int .i64 o,.int .i64 n,Cs ks] 47 jj:=by rw[cD];exact hF.B (by omega)
   have hb6:jj.heap.u b=some (.O (Z5 ys) ys.length):=by rw[cD];exact(A8 (by omega)).trans dG
   have hm6:jj.heap.u (q+1)=some (.O (Yy L) zk.length):=by rw[cD];exact(A8 (by omega)).trans hm
   have hi6:jj.heap.u r=some (.Y1 (some (q+1)) zk.length (seen++[w.2]) zk.length):=by rw[cD];exact Bz
   have hr6:r<jj.a:=by rw[cD];exact u7
   clear cD hF dG hm u6 u7;have hent:=Tu hi6 hm6 ku hs4;have hms:=H2 (z:=w.1) hb6;refine CE.of<|Sq<|Tt U<|Sk<|Sb<|Es<|Lo (HX U U hent) U<|Lw U<|Sr<|Lv 2 U<|Ln (AT (.inl U) QH sE U U U hms) U<|Ld ?_;refine⟨(seen++[w.2],ey ys w.1,jj.B b (some (.O (Z5 (ey ys w.1)) (ey ys w.1).length))),⟨hF6.uo,Bz,LN hnd',(A8 (by omega)).trans hm6,(A8 (by omega)).trans hi6,hr6,fun z hz=>IY.2 (.inr (h1 z hz)),fun z hz=>?_,fun x hx iw=>?_⟩,U0.2 hw,rfl,rfl,Ac (by trivial)⟩
   .rcases IY.1 hz with rfl|hz
    .exact .inr (List.mem_map.2 ⟨w,ku,U⟩)
    .exact h2 z hz
   .rcases List.mem_append.1 iw with iw|iw
    .exact IY.2 (.inr (h3 x hx iw))
    .have e2:x.2=w.2:=Qp.1 iw;have e1:x=w:=JO hs4 hx ku e2;exact IY.2 (.inl (by rw[e1]))
 .obtain rfl:i=ks.length:=by omega
  refine CE.of ?_;focus
   refine Ew U<|Sq<|Cd U (fun h2=>?_) (fun h2=>?_);omega;refine Sx<|Ax U ?_;rotate_left
  exact hF.A hm ⟨zs,rfl,rfl,cW,fun z=>by rw[aM z,wI z];exact⟨fun⟨j,hj,_,h⟩=>⟨j,hj,h⟩,fun⟨j,hj,h⟩=>⟨j,hj,hj,h⟩⟩⟩ (.inr U) U
theorem Xp (t:Cc) (hn:Ct t<=1000) (s:St) (hb:s.b<=s.a):CD (EK um) 235 [.agg (Cf t)] s (fun v s'=>∃m c es,v= .H_ m/\s.a<=m/\m<s'.a/\s'.heap.u m=some (.O es c)/\GF t es c/\s'.b=s.b/\s'.c=s.c/\∀x,x<s.a->s'.heap.u x=s.heap.u x):=by
 have o8:=fun s b h1 h2 h3=>free_to (CL t) t (Qj _) hn s b h1 h2 h3;rw[Ak]at o8|-;refine CD.gen (fn:=Tryz.f235) U U U U U U ?_;obtain⟨st,Zc⟩:∃st,st=(s.u.A (.J [.int .i64 t.op,.int .i64 t.n,Cs t.u] 47 false)).A (.O [] 0):=⟨_,rfl⟩
 have wv:((s.u.A (.J [.int .i64 t.op,.int .i64 t.n,Cs t.u] 47 false)).A (.O [] 0)).heap.u s.u.a=some (.J [.int .i64 t.op,.int .i64 t.n,Cs t.u] 47 false):=(Au (Nat.lt_succ_self _)).trans A1;have yu:st.heap.u (s.a+1)=some (.O [] 0):=by rw[Zc];exact A1
 have hsn:st.a=s.a+2:=by rw[Zc];rfl
 have hsb:st.b=s.a:=by rw[Zc];rfl
 have wL:st.c=[]:=by rw[Zc];rfl
 have gE:∀x,x<s.a->st.heap.u x=s.heap.u x:=fun x hx=>by
  rw[Zc,Au (by show x<s.a+1;omega)];exact Au hx
 have hF:=o8 st (s.a+1) (by omega) (by omega) yu;rw[Zc]at hF;refine Es<|Lo (ZU.box U U U) U<|Lw U<|Es<|Lo (D5 U QH) U<|Lw U<|Es<|qm U<|Lo (kL U wv U) U<|kf U (CD.mono hF ?_);rintro v Zy ⟨rfl,hw,es,c,gz,hG⟩;rw[<-Zc]at hw;clear hF Zc wv o8;refine Ld<|Ew U<|Se ⟨.inl U,Zy,rfl,[.H_ (s.a+1)],Aa U U,.J (.H_ (s.a+1)) (s.M Zy),?_,s.a+1,c,es,rfl,by omega,by show s.a+1<Zy.a;have:=hw.a;omega,gz,hG,rfl,?_,fun x hx=>?_⟩
 .refine ES U (hw.c.trans wL) U ?_;show Nat.blt (s.a+1) s.a=false;rw[<-Bool.not_eq_true,Nat.blt_eq];omega
 .show below s.b Zy.c s.c=s.c;rw[hw.c,wL];rfl
 .exact(hw.e x (by omega) (by omega)).trans (gE x hx)
theorem Pm (l:List Int):l.flatMap ZS=im l:=by
 induction l with
 |nil=>rfl
 |cons a l ih=>rw[List.flatMap_cons,ih];rfl
theorem SL (seen:List Nat):∀L:List (Int×Nat),(c9 seen L).length<=L.length
 | []=>Qj _
 |p::L=>by
  have:=SL seen L;unfold c9;split<;>simp only[List.length_cons]<;>omega
theorem OQ:∀ {L:List (Int×Nat)} {x w:Int×Nat},(L.map (·.1)).Nodup->x∈L->w∈L->x.1=w.1->x=w
 |q::L,x,w,hn,hx,hw,e=>by
  rw[List.map_cons,List.nodup_cons]at hn;rcases Qk.1 hx with e1|xI
  .rcases Qk.1 hw with e2|ku
   .rw[e1,e2]
   .exact absurd (List.mem_map.2 ⟨w,ku,by rw[<-e,e1]⟩) hn.1
  .rcases Qk.1 hw with e2|ku
   .exact absurd (List.mem_map.2 ⟨x,xI,by rw[e,e2]⟩) hn.1
   .exact OQ hn.2 xI ku e
theorem V6 {l m:List Int} (h:l.Nodup) (hm:kS m) (hl:∀z,z∈l↔z∈m):eO l=m:=by
 have hp:(eO l).Perm l:=List.mergeSort_perm _ _;have hs:(eO l).Pairwise fun a b=>decide (a<=b)=true:=List.pairwise_mergeSort (fun a b c h1 h2=>by simp only[decide_eq_true_eq]at*;omega) (fun a b=>by simp only[Bool.or_eq_true,decide_eq_true_eq];omega) l;refine SX ?_ hm fun z=>(hp.mem_iff).trans (hl z);have hn:(eO l).Nodup:=(hp.nodup_iff).2 h;have:(eO l).Pairwise fun a b=>decide (a<=b)=true/\a≠b:=hs.and hn;exact this.imp fun⟨h1,h2⟩=>by have:=dT h1;omega
theorem V3 {st:St} {v:AV} {e:TypeId} {ys:List Int} (hg:c_ st e 1 v (ys.flatMap ZS) ys.length) (hl:ys.length<=4000):
 ∃Zy,wZ [v] st=some (.O [],Zy)/\c_ Zy e 1 v ((eO ys).flatMap ZS) ys.length/\Zy.a=st.a/\Zy.b=st.b/\(st.b=0->Zy.c=st.c):=by
 rcases hg with⟨rfl,h1,h2⟩|⟨b,rfl,hb,hg,hln,h0⟩
 .have:ys=[]:=List.eq_nil_of_length_eq_zero (by simpa using h1);subst this;exact⟨st,rfl,.inl ⟨rfl,rfl,by simp[eO]⟩,rfl,rfl,fun _=>rfl⟩
 .refine⟨st.B b (some (.J (im (eO ys)) e true)),?_,.inr ⟨b,rfl,hb,?_,?_,h0⟩,rfl,rfl,fun nk=>Ik (by omega)⟩
  .show srtIn st b ys.length (st.heap.u b)=_;rw[hg,Pm];show(bif Nat.beq (im ys).length ys.length&&Nat.blt ys.length 4611686018427387904 then _ else _)=_;rw[show(im ys).length=ys.length from Qn ..,Nat.beq_refl,show Nat.blt ys.length 4611686018427387904=true from by rw[Nat.blt_eq];omega,Mm];rfl
  .rw[Pm];exact Bz
  .have:(eO ys).length=ys.length:=(List.mergeSort_perm _ _).length_eq;rw[DD,this,Nat.mul_one]
def ln (t:Cc):AV:= .O [az (Cy t),.int .i64 0]
theorem varsV_eq (t:Cc):bM (ln t) (ln t)=true:=by
 unfold ln;generalize Cy t=l;have h:∀l:List Int,fR (l.flatMap ZS) (l.flatMap ZS)=true:=by
  intro l;induction l with
  |nil=>rfl
  |cons a l ih=>
   show(bM (.int .i64 a) (.int .i64 a)&&fR (l.flatMap ZS) (l.flatMap ZS))=true;rw[ih,Bool.and_true];show(if IntKind.i64= .i64 then decide (a=a)else false)=true;simp
 cases l with
 |nil=>rfl
 |cons a l=>
  show((Nat.beq (a::l).length (a::l).length&&Nat.beq 1 1&&(bif true then true else !true)&&fR ((a::l).flatMap ZS) ((a::l).flatMap ZS))&&(bM (.int .i64 0) (.int .i64 0)&&true))=true;rw[h,Nat.beq_refl];rfl
theorem vars_to (cs fs:List Ci) (t:Cc) (hc:cs.length<=4000) (hf:fs.length<=4000) (hn:Ct t<=1000) (gM:∀p∈cs,p.1.length<=4000) (kP:∀p∈fs,p.1.length<=4000) (kG:al cs fs=true) (ht:CQ cs fs t=true):
 Cj (EK um) 184 [CH cs fs,.agg (Cf t)] S0 (ln t):=by
 have e0:=Ak t;have hs:YN t:=Dl t (by omega);have dz:um 115 [.agg [Cp Cq 2 cs,Cp Cq 2 fs]]=some (.int .i64 0):=by
  have:=Pq gM kP;rw[kG]at this;exact this
 have aT:um 189 [CH cs fs,.agg (Cf t)]=some (.bool true):=by
  have:=SZ hc hf hs;rw[ht]at this;exact this
 have cI:=fun s hb=>Xp t hn s hb;have stop_235:True:=trivial;rw[e0]at aT cI|-;unfold CH at aT|-;refine Cj.many (s:=S0) (fn:=Tryz.f184) U U U U U U (varsV_eq t) ?_;show CE _ _ _ _ (Y9 0 0 [] []) _;refine CE.seq (CE.of ?_);refine Sr<|Lx U<|CE.seq (CE.of ?_);refine Es<|Ls 2 U<|Lo (AL 3 U u_45 Ic z_47 U U U U) U<|AR (fn:=Tryz.f119) U U U U U U U U U U U U U<|Eh U<|Es<|Ls 1 U<|Lo (kc U (dz)) U<|Lv 4 U<|Ge U U U U U<|AR (fn:=Tryz.f187) U U U U U U U U U U U U U<|Ew U<|Sq<|Ew U<|Sb<|A3<|Ew U<|Sq<|Tt U<|Sk<|Sq<|Sb<|Es<|Lq (kM (k:=0) U (by omega)) U<|Lx U<|Es<|Ls 2 U<|F5 (fn:=Tryz.f188) U U U U U U U U U U U U U U U<|Eh U<|Es<|Ls 2 U<|Lo (kc U (aT)) U<|Lw U<|Se (AC (Zx.same U (Aa U U) U U U U ?_))
 refine Lw U<|Tf U<|Sk<|Sr<|Lq (ka (a:=0) (b:=1) U (by omega)) U<|Lw U<|A3<|Ew U<|Sq<|Tf U<|Sx<|Ax U<|Ew U<|Se (AC (Zx.same U (Aa U U) U U U U ?_));refine Lw U<|Se (AC (Zx.same U (Aa U U) U U U U ?_));refine Lw U<|Tf U<|Sk<|CE.seq (CE.of ?_);refine Sr<|Lw U<|CE.seq (CE.cutEX (fun x:AV×St=>([(6,x.1)],x.2)) (fun x=>∃ys:List Int,c_ x.2 3 1 x.1 (ys.flatMap ZS) ys.length/\x.2.b=0/\x.2.c=[]/\ys.Nodup/\(∀z,z∈ys↔z∈Cy t)) ?_ ?_)
 .refine CE.seq (CE.of ?_);refine Sr<|Ls 1 U<|kf U (CD.mono (cI _ (Qo _)) ?_);rintro v st ⟨m,c,es,rfl,h1,h2,h3,⟨zs,rfl,rfl,qN,hz2⟩,h4,h5,-⟩;clear cI;have h4:st.b=0:=h4;have h5:st.c=[]:=h5;clear h1
  skip
  refine Lo (E8 U QH U h3) U<|Ld ?_;obtain⟨r,hr⟩:∃r,r=st.a:=⟨_,rfl⟩
  obtain⟨st5,kT⟩:∃st5,st5=st.A (.Y1 (some m) zs.length [] zs.length):=⟨_,rfl⟩
  have hL1:((eY 0 zs).map (·.1)).Nodup:=by rw[Dc];exact qN
  have hL2:((eY 0 zs).map (·.2)).Nodup:=dW;have hL3:∀z,z∈(eY 0 zs).map (·.1)↔z∈Cy t:=fun z=>by rw[Dc];exact hz2 z
  have hlz:zs.length<=1000:=by
   have:=((List.perm_ext_iff_of_nodup qN (Is (Hk t))).2 hz2).length_eq;have:=Fe t;omega
  have hm5:st5.heap.u m=some (.O (Yy (eY 0 zs)) zs.length):=by rw[kT,Au h2];exact h3
  have hLn:(eY 0 zs).length<=1000:=by have:=congrArg List.length (Dc 0 zs);rw[Qn]at this;omega
  generalize eY 0 zs=L at*;refine CE.block<|CE.tZ (fun x:List Nat×List Int×AV×St=>([(15,.Z r 0),(6,x.2.2.1)],x.2.2.2)) (fun x=>(c9 x.1 L).length)
   (fun x=>c_ x.2.2.2 3 1 x.2.2.1 (x.2.1.flatMap ZS) x.2.1.length/\x.2.2.2.b=0/\x.2.2.2.c=[]/\x.2.1.Nodup/\x.2.2.2.heap.u m=some (.O (Yy L) zs.length)/\x.2.2.2.heap.u r=some (.Y1 (some m) zs.length x.1 zs.length)/\r<x.2.2.2.a/\m<x.2.2.2.a/\
    CT m x.2.2.1=false/\CT r x.2.2.1=false/\(∀z∈x.2.1,∃p∈L,p.1=z/\p.2∈x.1)/\(∀p∈L,p.2∈x.1->p.1∈x.2.1)/\x.2.1.length+(c9 x.1 L).length<=1000)
   ([],[],.Ca,st5) ⟨c_.nil _ _ _,by rw[kT];exact h4,by rw[kT];exact h5,List.nodup_nil,hm5,by rw[kT,hr];exact A1,by rw[kT,hr];exact Nat.lt_succ_self _,by rw[kT];exact Nat.lt_succ_of_lt h2,rfl,rfl,fun _ h=>absurd h List.not_mem_nil,fun _ _ h=>absurd h List.not_mem_nil,by show 0+(c9 [] L).length<=1000;have:=SL [] L;omega⟩ (by rw[kT]) (by rw[hr];(refine Am.Ac ?_;repeat (first|exact trivial|refine⟨rfl,?_⟩))) ?_
  have hmr:m≠r:=by omega
  clear kT hr hm5 h3 h4 h5 h2;rintro⟨seen,ys,v,st⟩ ⟨dy,aO,Z9,cW,hm,u6,u7,hmn,ho1,zR,k1,k2,k3⟩;dsimp only at dy aO Z9 cW hm u6 u7 hmn ho1 zR k1 k2 k3|-;refine CE.seq (CE.next U U U U U U u6 hm (fun hL=>?_) fun e he=>?_)
  .refine Lw U<|CE.of<|Sq<|Tf U<|Sx<|Ax U ?_;rw[ER]at hL;have hL:c9 seen L=[]:=List.map_eq_nil_iff.1 hL;refine⟨rfl,(v,st),⟨ys,dy,aO,Z9,cW,fun z=>⟨fun hz=>?_,fun hz=>?_⟩⟩,rfl,Ac (by trivial)⟩
   .obtain⟨p,hp,e,_⟩:=k1 z hz;exact(hL3 z).1 (List.mem_map.2 ⟨p,hp,e⟩)
   .obtain⟨w,ku,zA⟩:=List.mem_map.1 ((hL3 z).2 hz);have hw3:w.2∈seen:=by
     by_cases hs:w.2∈seen
     .exact hs
     .have:=(HA (seen:=seen)).2 ⟨ku,hs⟩;rw[hL]at this;exact absurd this List.not_mem_nil
    have:=k2 w ku hw3;rwa[zA]at this
  .rw[ER]at he;obtain⟨w,hw,rfl⟩:=List.mem_map.1 he;obtain⟨ku,zA⟩:=HA.1 hw;dsimp only;refine Lw U ?_;obtain⟨jj,cD⟩:∃jj,jj=st.B r (some (.Y1 (some m) zs.length (seen++[w.2]) zs.length)):=⟨_,rfl⟩
   refine CE.at (s':=jj) (l':=[(17,.bool true),(15,.Z r 0),(6,v)]) cD.symm (Ac (by trivial)) ?_;have hg6:c_ jj 3 1 v (ys.flatMap ZS) ys.length:=dy.aI (by rw[cD];exact Qj _) fun c hc=>by rw[cD];exact A8 (fun e=>by rw[e,zR]at hc;cases hc)
   have hm6:jj.heap.u m=some (.O (Yy L) zs.length):=by rw[cD];exact(A8 hmr).trans hm
   have hi6:jj.heap.u r=some (.Y1 (some m) zs.length (seen++[w.2]) zs.length):=by rw[cD];exact Bz
   have hr6:r<jj.a:=by rw[cD];exact u7
   have hmn6:m<jj.a:=by rw[cD];exact hmn
   have hb6:jj.b=0:=by rw[cD];exact aO
   have hl6:jj.c=[]:=by rw[cD];exact(Ik (by omega)).trans Z9
   clear cD dy hm u6 u7 hmn aO Z9;have hent:=Tu hi6 hm6 ku hL2;refine CE.of<|Sq<|Tt U<|Sk<|Sb<|Es<|Lo (HX U U hent) U ?_;have C8:=U0.2 hw;have hyl:ys.length<=1000:=by omega
   refine Lw U<|Sr<|Lv 2 U<|Lo (Bv U Vf Eo z_3 U U U) U<|DT hg6 U (by decide) (AP (by omega) (by decide)) (AP (by omega) (by decide)) U U U U Vf Eo xd z_3 U U U U U U U fun v6 s6 f6 o6 c6 l6=>?_;refine Lw U ?_;have bG:w.1∉ys:=fun hy=>by
    obtain⟨p,hp,e,h⟩:=k1 _ hy;exact zA (OQ hL1 hp ku e▸h)
   refine⟨(seen++[w.2],ys++[w.1],v6,s6),⟨?_,c6.b.trans hb6,List.eq_nil_iff_forall_not_mem.2 fun c hc=>?_,?_,(c6.heap m hmn6 (by rw[ho1];exact Bool.false_ne_true)).trans hm6,(c6.heap r hr6 (by rw[zR];exact Bool.false_ne_true)).trans hi6,Nat.lt_of_lt_of_le hr6 c6.a,Nat.lt_of_lt_of_le hmn6 c6.a,?_,?_,fun z hz=>?_,fun p hp hs=>?_,?_⟩,C8,rfl,rfl,Ac (by trivial)⟩
   .dsimp only;rw[List.flatMap_append,Qm];exact f6
   .rcases c6.d c hc with h1|h1
    .rw[hl6]at h1;cases h1
    .omega
   .exact List.nodup_append.2 ⟨cW,List.pairwise_singleton _ _,fun a ha b hb e=>bG (by rw[Qp.1 hb]at e;exact e▸ha)⟩
   .cases ho:CT m v6 with
    |false=>rfl
    |true=>have:=o6 m ho;omega
   .cases ho:CT r v6 with
    |false=>rfl
    |true=>have:=o6 r ho;omega
   .rcases List.mem_append.1 hz with hz|hz
    .obtain⟨p,hp,e,h⟩:=k1 z hz;exact⟨p,hp,e,List.mem_append_left _ h⟩
    .exact⟨w,ku,(Qp.1 hz).symm,List.mem_append_right _ (Qp.2 U)⟩
   .rcases List.mem_append.1 hs with hs|hs
    .exact List.mem_append_left _ (k2 p hp hs)
    .rw[JO hL2 hp ku (Qp.1 hs)];exact List.mem_append_right _ (Qp.2 U)
   .dsimp only;rw[Qm,List.length_singleton];omega
 .rintro⟨v,st⟩ ⟨ys,dy,aO,Z9,cW,rY⟩;dsimp only at dy aO Z9|-;have hsv:=V6 cW (Hk t) rY;have hyl:ys.length=(Cy t).length:=by rw[<-hsv];exact((List.mergeSort_perm _ _).length_eq).symm
  have uT:=Fe t;obtain⟨Zy,dt,qK,hs3,hs4,hs5⟩:=V3 dy (by omega);rw[hsv]at qK;refine CE.of<|Es<|qm U<|kf U (CD.jw U U U dt ?_);refine Ld<|Ew U ?_;obtain⟨ks,hf⟩:=qK.ma (VZ _) (R9 _) 37;rw[hyl,xw rfl]at hf;refine Se ⟨.inl U,Zy,U,[v,.int .i64 0],Aa U (Aa U U),?_⟩;refine Nu U ((hs5 aO).trans Z9) (hs4.trans aO) (w:=ln t) (ks:=ks) ?_ ?_
  .show(CW.many (CW Zy 0 39) [v,.int .i64 0] []).bind _=_;show((CW Zy 0 39 v []).bind fun p=>(CW.many (CW Zy 0 39) [.int .i64 0] p.2).bind fun q=>some (p.1::q.1,q.2)).bind _=_;rw[hf];rfl
  .show(Cw 0 39 (az (Cy t))&&(Cw 0 39 (.int .i64 0)&&true))=true;cases Cy t<;>rfl
abbrev VaN:= {p:(List Ci×List Ci)×Cc//p.1.1.length<=4000/\p.1.2.length<=4000/\Ct p.2<=1000/\(∀q∈p.1.1,q.1.length<=4000)/\(∀q∈p.1.2,q.1.length<=4000)/\al p.1.1 p.1.2=true/\CQ p.1.1 p.1.2 p.2=true}
def uq (p:VaN):List AV:=[CH p.1.1.1 p.1.1.2,.agg (Cf p.1.2)]
theorem Xy (x y:VaN) (h:uq x=uq y):x=y:=by
 obtain⟨⟨⟨a,b⟩,t⟩,_⟩:=x;obtain⟨⟨⟨c,d⟩,u⟩,_⟩:=y;simp only[uq,List.cons.injEq,AV.agg.injEq,and_true]at h;obtain⟨rfl,rfl⟩:=Dr h.1;obtain rfl:=AO _ _ h.2;rfl
theorem NY (t:Cc):Cm 40 (ln t)=true:=by
 unfold ln;cases Cy t<;>rfl
noncomputable def lY:=CX um 184 uq (fun p=>ln p.1.2)
theorem hq_184 {cs fs:List Ci} {t:Cc} (hc:cs.length<=4000) (hf:fs.length<=4000) (hn:Ct t<=1000) (gM:∀p∈cs,p.1.length<=4000) (kP:∀p∈fs,p.1.length<=4000) (kG:al cs fs=true) (ht:CQ cs fs t=true):lY 184 [CH cs fs,.agg (Cf t)]=some (ln t):=
 Aj (enc:=uq) (fun a b h=>by rw[Xy a b h]) ⟨((cs,fs),t),hc,hf,hn,gM,kP,kG,ht⟩
theorem pall34 (h:CM Tryz.prog 8 [] (.bool true)):Co Tryz.prog gn lY:=
 Al Aw Ag (pall33 h) (fun p:VaN=>vars_to p.1.1.1 p.1.1.2 p.1.2 p.2.1 p.2.2.1 p.2.2.2.1 p.2.2.2.2.1 p.2.2.2.2.2.1 p.2.2.2.2.2.2.1 p.2.2.2.2.2.2.2) (fun p=>by
  show(Cm 40 (CH _ _)&&(Cm 40 (.agg (Cf _))&&true))=true;rw[AU];rfl) (fun _=>NY _)
end Go.Proofs.YtfhimfcbphepeaaGreatDoor.Ty
