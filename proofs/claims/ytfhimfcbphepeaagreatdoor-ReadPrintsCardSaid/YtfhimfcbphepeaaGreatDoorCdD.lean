/- Printing, part 4. -/
import Derived.Test.YtfhimfcbphepeaaGreatDoorCdA
import Derived.Test.YtfhimfcbphepeaaGreatDoorCdC
set_option linter.unusedSectionVars false
set_option linter.unusedVariables false
set_option linter.unusedSimpArgs false
open Go Am
namespace Go.Proofs.YtfhimfcbphepeaaGreatDoor.Ty
def dec (n:Nat):Zi:=if n<10 then [UInt8.ofNat (48+n)]else dec (n/10)++[UInt8.ofNat (48+n % 10)]
termination_by n
decreasing_by omega
def ll (n:Nat):Nat:=if n<10 then 1 else ll (n/10)+1
termination_by n
decreasing_by omega
theorem Iy {n:Nat} (h:n<10):dec n=[UInt8.ofNat (48+n)]:=by rw[dec,if_pos h]
theorem Jh {n:Nat} (h:¬n<10):dec n=dec (n/10)++[UInt8.ofNat (48+n % 10)]:=by rw[dec,if_neg h]
theorem UK {n:Nat} (h:¬n<10):ll n=ll (n/10)+1:=by rw[ll,if_neg h]
theorem XC (n:Nat):0<ll n:=by rw[ll];split<;>omega
def mW (n:Int):Zi:=if n<0 then 126::dec n.natAbs else dec n.natAbs
def iu (n:Int):Nat:=if n<0 then ll n.natAbs+1 else ll n.natAbs
theorem XD (n:Int):0<iu n:=by unfold iu;have:=XC n.natAbs;split<;>omega
theorem NG:∀ {k n:Nat},n<10^(k+1)->(dec n).length<=k+1
 |0,n,h=>by rw[Iy (by omega)];exact Qj _
 |k+1,n,h=>by
  by_cases h1:n<10
  .rw[Iy h1];show 1<=_;omega
  .rw[Jh h1,Qm];have:=NG (k:=k) (n:=n/10) (by rw[Nat.pow_succ]at h;omega);show _+1<=_;omega
abbrev IntT:= {n:Int// -1000000000<=n/\n<=1000000000}
def encI (p:IntT):List AV:=[.int .i64 p.1]
theorem NA (x y:IntT) (h:encI x=encI y):x=y:=Subtype.ext (AV.int.inj (List.cons.inj h).1).2
def resI (p:IntT):AV:= .J (mW p.1)
theorem QW (d:Nat) (n:Int) (hd:iu n=d+1) (h0: -1000000000<=n/\n<=1000000000) (hx:A' vd 201 encI resI (fun p=>iu p.1) d 201 [.int .i64 n]=none):Cj (EK (A' vd 201 encI resI (fun p=>iu p.1) d)) 201 [.int .i64 n] S0 (.J (mW n)):=by
 have key:∀m:Nat,m<=1000000000->ll m<=d->A' vd 201 encI resI (fun p=>iu p.1) d 201 [.int .i64 (m:Nat)]=some (.J (dec m)):=fun m hm hdm=>by
  have e:mW (m:Nat)=dec m:=by unfold mW;rw[if_neg (by omega),Int.natAbs_natCast]
  have:=DE (K:=vd) (g:=201) (res:=resI) (deep:=fun p:IntT=>iu p.1) (d:=d) NA ⟨(m:Nat),by omega,by omega⟩ (by
   show iu (m:Nat)<=d;unfold iu;rw[if_neg (by omega),Int.natAbs_natCast];exact hdm)
  rw[<-e];exact this
 refine Bt (fn:=Tryz.f201) U hx U U U U U ?_;by_cases hn:n<0
 .unfold iu at hd;rw[if_pos hn]at hd;have kH:=key n.natAbs (by omega) (by omega);rw[show((n.natAbs:Nat):Int)= -n by omega]at kH;have hl:=NG (k:=9) (n:=n.natAbs) (by omega);have l1:({data:= #[126]}:ByteArray).data.toList.length=1:=rfl;unfold mW;rw[if_pos hn];clear key hx;focus
   refine Ew U<|Sq<|Ew U<|Cd U (fun h1=>?_) (fun h1=>?_);refine Es<|qm U<|Lq (Yd U U (by omega)) U<|Lo (kc U (kH)) U<|Lq (Av U Zr U U (by omega)) U<|Lw U<|Se (Er U ?_);rotate_left;omega
  rfl
 .obtain⟨m,rfl⟩:=Int.eq_ofNat_of_zero_le (by omega:0<=n);have e:mW (m:Nat)=dec m:=by unfold mW;rw[if_neg (by omega),Int.natAbs_natCast]
  have ed:iu (m:Nat)=ll m:=by unfold iu;rw[if_neg (by omega),Int.natAbs_natCast]
  rw[e];rw[ed]at hd;by_cases xj:m<10
  .rw[Iy xj];clear key hx;focus
    refine Ew U<|Sq<|Ew U<|Tf U<|Sk<|Es<|qm U<|Lq (Jn (b:=10) U aP U U (by omega)) U<|Lq (ka (a:=48) U (by omega)) U<|Lq (B5 U aP ua U (by omega)) U<|Lo (AL 1 U D8 DF z_5 U U U U) U<|Lo (Ba U D8 Zr Po U U) U<|Lw U<|Sq<|Ew U<|Cd U (fun h1=>?_) (fun h1=>?_);refine Ew U<|Se (Er U ?_);rotate_left;omega
   show AV.J [UInt8.ofNat (48+m % 10)]=_;rw[Nat.mod_eq_of_lt xj]
  .rw[UK xj]at hd;have kH:=key (m/10) (by omega) (by omega);have hl:=NG (k:=9) (n:=m/10) (by omega);rw[Jh xj];clear key hx;focus
    refine Ew U<|Sq<|Ew U<|Tf U<|Sk<|Es<|qm U<|Lq (Jn (b:=10) U aP U U (by omega)) U<|Lq (ka (a:=48) U (by omega)) U<|Lq (B5 U aP ua U (by omega)) U<|Lo (AL 1 U D8 DF z_5 U U U U) U<|Lo (Ba U D8 Zr Po U U) U<|Lw U<|Sq<|Ew U<|Cd U (fun h1=>?_) (fun h1=>?_);omega;refine Sk<|Es<|qm U<|Lq (Jo (b:=10) U aP U U (by omega)) U<|Lo (kc U (kH)) U<|qm U<|Lq (Av U Zr U U (by grind)) U<|Lw U<|Se (Er U ?_);rotate_left
   rfl
noncomputable def sO:=CX vd 201 encI resI
theorem hq_201 {n:Int} (h: -1000000000<=n/\n<=1000000000):sO 201 [.int .i64 n]=some (.J (mW n)):=Aj (enc:=encI) (fun a b h=>by rw[NA a b h]) ⟨n,h⟩
theorem pall18 (h:CM Tryz.prog 8 [] (.bool true)):Co Tryz.prog gn sO:=
 Lt (deep:=fun p:IntT=>iu p.1) Aw Ag (pall17 h) NA (fun p=>XD p.1) (fun _=>rfl) (fun _=>rfl) fun d p hp hx=>QW d p.1 hp p.2 hx
theorem XF:∀ {d m:Nat},(10^d<=m\/d=0)->m<10^(d+1)->dec m=jo m (d+1)
 |0,m,_,h=>by
  rw[Iy (by omega)];show _=[]++[UInt8.ofNat (48+m % 10)]
  rw[Nat.mod_eq_of_lt (by omega)];rfl
 |d+1,m,h0,h=>by
  have h1:10^(d+1)<=m:=by rcases h0 with h0|h0;exact h0;omega
  have hp:10^(d+1)=10^d*10:=Nat.pow_succ ..;have hq:10^(d+1+1)=10^(d+1)*10:=Nat.pow_succ ..;have uP:0<10^d:=Nat.pos_of_ne_zero (by simp);rw[Jh (by omega),XF (d:=d) (m:=m/10) (.inl (by omega)) (by omega)];rfl
theorem XE {m:Nat} (h:m<100):dec m=jQ m:=by
 by_cases h1:m<10
 .rw[Iy h1,jQ,if_pos h1]
 .rw[Jh h1,Iy (by omega),jQ,if_neg h1];rfl
theorem SQ {m:Nat} (h:m<10000000):eu (m:Nat)=dec m:=by
 unfold eu;by_cases h1:m<100
 .rw[if_pos (by omega),XE h1];rfl
 .rw[if_neg (by omega),if_neg (by omega),Int.natAbs_natCast];obtain⟨a,b,c,d⟩:=Wv (m:=m) (by omega) h;obtain⟨k,hk⟩:∃k,jP m=k+1:=⟨jP m-1,by omega⟩
  rw[hk]at c d|-;exact(XF (.inl (by simpa using c)) d).symm
theorem SV {n:Int} (h: -1000000<=n/\n<=1000000):mW n=if n<0 then 126::eu (-n)else eu n:=by
 unfold mW;split
 .rw[<-SQ (by omega),show((n.natAbs:Nat):Int)= -n by omega]
 .rw[<-SQ (by omega),show((n.natAbs:Nat):Int)=n by omega]
def dQ (tk:List Zi) (k:Nat):Bool:=YM (j' k)&&(ir (j' k) tk).isNone
def uh (tk:List Zi):Nat->Nat->Nat->Nat
 |0,a,_=>a
 |f+1,a,n=>if dQ tk a=true then(if n=0 then a else uh tk f (a+1) (n-1))else uh tk f (a+1) n
def jq (tk:List Zi) (n:Nat):Zi:=j' (uh tk 100 0 n)
theorem V4 {a b:Nat} (ha:a<702) (hb:b<702) (h:j' a=j' b):a=b:=by
 have key:∀ {x y:Nat},x<26->y<26->UInt8.ofNat (97+x)=UInt8.ofNat (97+y)->x=y:=fun {x y} hx hy e=>by
  have h1:=LK hx;have h2:=LK hy;rw[e]at h1;omega
 by_cases h1:a<26<;>by_cases h2:b<26
 .rw[D9 h1,D9 h2]at h;exact key h1 h2 (List.cons.inj h).1
 .rw[D9 h1,EH h2]at h;exact absurd (congrArg List.length h) (by simp)
 .rw[EH h1,D9 h2]at h;exact absurd (congrArg List.length h) (by simp)
 .rw[EH h1,EH h2]at h;have e1:=key (by omega) (by omega) (List.cons.inj h).1;have e2:=key (by omega) (by omega) (List.cons.inj (List.cons.inj h).2).1;omega
theorem Ey {k:Nat} (h:k<100):YM (j' k)=true:=by
 have:((List.range 100).all fun k=>YM (j' k))=true:=by kernel_rfl
 exact List.all_eq_true.1 this k (List.mem_range.2 h)
theorem SA {α:Type} [DecidableEq α]:∀ {l t:List α},l.Nodup->(∀x∈l,x∈t)->l.length<=t.length
 | [],_,_,_=>Qo _
 |x::l,t,hn,hs=>by
  have hx:=hs x (Qh ..);have hn:=List.nodup_cons.1 hn;have:=SA (l:=l) (t:=t.erase x) hn.2 fun y hy=>(List.mem_erase_of_ne (fun e:y=x=>hn.1 (e▸hy))).2 (hs y (Qg _ hy));rw[List.length_erase_of_mem hx]at this;have:=List.length_pos_of_mem hx;show l.length+1<=_;omega
def held (tk:List Zi) (a:Nat):Nat:=((List.range a).filter fun k=> !dQ tk k).length
theorem WY (tk:List Zi) {a:Nat} (h:a<=100):held tk a<=tk.length:=by
 unfold held;rw[<-Qn (f:=j')];refine SA ?_ fun x hx=>?_
 .refine List.pairwise_map.2<|List.Pairwise.imp_of_mem (R:=fun a b=>a≠b) (fun {x y} hx hy ZT e=>ZT (V4 ?_ ?_ e)) ((List.nodup_range).filter _)
  .have:=List.mem_range.1 (List.mem_filter.1 hx).1;omega
  .have:=List.mem_range.1 (List.mem_filter.1 hy).1;omega
 .obtain⟨k,hk,rfl⟩:=List.mem_map.1 hx;obtain⟨h1,h2⟩:=List.mem_filter.1 hk;unfold dQ at h2;rw[Ey (by have:=List.mem_range.1 h1;omega),Bool.true_and]at h2;cases hi:ir (j' k) tk with
  |none=>rw[hi]at h2;cases h2
  |some j=>
   obtain⟨hj,e⟩:=WQ hi;rw[<-e];exact Ql hj
theorem Pt (tk:List Zi) (a:Nat):held tk (a+1)=held tk a+if dQ tk a=true then 0 else 1:=by
 unfold held;rw[List.range_succ,List.filter_append,Qm];by_cases e:dQ tk a=true
 .simp[e]
 .simp[e]
theorem Oz (n:Nat) (tk:List Zi) (hn:n<=30) (ht:tk.length<=30):Cj (EK sO) 113 [.int .i64 (n:Nat),CY tk] S0 (.J (jq tk n)):=by
 refine As U ?_;iterate 2 refine Ew U ?_
 refine Sb<|Ai (fun x:Nat×Nat=>([(5,.int .i64 (x.1:Nat)),(0,.int .i64 (x.2:Nat)),(1,CY tk)],Y9 0 0 [] [])) (fun x=>100-x.1) (fun x=>x.1+x.2=n+held tk x.1/\uh tk (100-x.1) x.1 x.2=uh tk 100 0 n/\x.1<=100) (0,n) ⟨by dsimp only;unfold held;rw[List.range_zero];simp,rfl,Qo _⟩ U (Ac (by trivial)) ?_;rintro⟨a,m⟩ ⟨h1,h2,h3⟩;dsimp only at h1 h2 h3|-;have hle:=WY tk h3;have ha:a<100:=by omega
 have hsu:=Pt tk a;obtain⟨f,hf⟩:∃f,100-a=f+1:=⟨99-a,by omega⟩
 rw[hf,uh]at h2;have mU:sO 176 [.int .i64 (a:Nat)]=some (.J (j' a)):=hq_176 (by omega);have wL:(j' a).length<=2:=by unfold j';split<;>simp
 have mV:sO 127 [.J (j' a)]=some (.bool (YM (j' a))):=hq_127 (by omega);rw[Ey ha]at mV;have fZ:sO 101 [CY tk,.J (j' a)]=some (.int .i64 (idxZ (ir (j' a) tk))):=hq_101 (by omega);have ZO:dQ tk a=(ir (j' a) tk).isNone:=by unfold dQ;rw[Ey ha,Bool.true_and]
 cases hi:ir (j' a) tk with
 |none=>
  rw[hi]at fZ ZO;rw[show dQ tk a=true from ZO,if_pos rfl]at hsu h2;have fZ:sO 101 [CY tk,.J (j' a)]=some (.int .i64 (-1)):=fZ;focus
   refine Sb<|Es<|qm U<|Lo (kc U (mU)) U<|Lw U<|Sq<|Es<|qm U<|Lo (kc U (mV)) U<|Lv 3 U<|Lg U U (kc U (fZ))<|Lw U<|Tt U<|Sq<|Ew U<|Cd U (fun h1=>?_) (fun h1=>?_);refine Ew U<|Se (Er U ?_);rotate_left;refine Sk<|Sr<|qm U<|Lq (Aq (b:=1) U aP U U (by omega)) U<|Lw U<|Sr<|qm U<|Lq (ka (b:=1) U (by omega)) U<|Lw U ?_;rotate_left
  .obtain rfl:m=0:=by omega
   rw[if_pos rfl]at h2;show AV.J (j' a)=_;unfold jq;rw[<-h2]
  .rw[if_neg (by omega)]at h2;exact⟨(a+1,m-1),⟨by dsimp only;omega,by rw[show 100-(a+1)=f by omega];exact h2,by dsimp only;omega⟩,by show 100-(a+1)<100-a;omega,U,U,Ac (by trivial)⟩
 |some j=>
  rw[hi]at fZ ZO;have ZO:dQ tk a=false:=ZO;rw[ZO,if_neg Bool.false_ne_true]at hsu h2;have fZ:sO 101 [CY tk,.J (j' a)]=some (.int .i64 (j:Nat)):=fZ;refine Sb<|Es<|qm U<|Lo (kc U (mU)) U<|Lw U<|Sq<|Es<|qm U<|Lo (kc U (mV)) U<|Lv 3 U<|Lg U U (kc U (fZ))<|Lw U<|Tf U<|Sk<|Sr<|qm U<|Lq (ka (b:=1) U (by omega)) U<|Lw U ?_;exact⟨(a+1,m),⟨by dsimp only;omega,by rw[show 100-(a+1)=f by omega];exact h2,by dsimp only;omega⟩,by show 100-(a+1)<100-a;omega,U,U,Ac (by trivial)⟩
abbrev VaT:= {p:Nat×List Zi//p.1<=30/\p.2.length<=30}
def ui (p:VaT):List AV:=[.int .i64 (p.1.1:Nat),CY p.1.2]
theorem Xz (x y:VaT) (h:ui x=ui y):x=y:=by
 obtain⟨⟨a,b⟩,_⟩:=x;obtain⟨⟨c,d⟩,_⟩:=y;simp only[ui,List.cons.injEq,AV.int.injEq,true_and,and_true]at h;obtain⟨h1,h2⟩:=h;obtain rfl:=Int.ofNat.inj h1;obtain rfl:=J2 h2;rfl
noncomputable def xu:=CX sO 113 ui (fun p=> .J (jq p.1.2 p.1.1))
theorem hq_113 {n:Nat} {tk:List Zi} (hn:n<=30) (ht:tk.length<=30):xu 113 [.int .i64 (n:Nat),CY tk]=some (.J (jq tk n)):=Aj (enc:=ui) (fun a b h=>by rw[Xz a b h]) ⟨(n,tk),hn,ht⟩
theorem pall19 (h:CM Tryz.prog 8 [] (.bool true)):Co Tryz.prog gn xu:=
 Al Aw Ag (pall18 h) (fun p:VaT=>Oz p.1.1 p.1.2 p.2.1 p.2.2) (fun p=>by
  show(true&&(Cm 40 (CY p.1.2)&&true))=true;rw[BE];rfl) (fun _=>rfl)
def But (K:FuncId->List AV->Option AV):Prop:=∀g,g≠128->K g=xu g
theorem But.add {α:Type} {enc:α->List AV} {res:α->AV}:But (CX xu 128 enc res):=fun g h=>by
 unfold CX;have:Nat.beq g 128=false:=by
  cases hb:Nat.beq g 128 with
  |false=>rfl
  |true=>exact absurd (Qb hb) h
 rw[this];rfl
def mX:List Zi->Zi
 | []=>[]
 |a::l=>[40]++a++l.flatMap ([44,32]++·)++[41]
def aK (l:List Zi):Nat:=(l.map List.length).sum
theorem FR (sep:Zi):∀l:List Zi,(l.flatMap (sep++·)).length=aK l+l.length*sep.length
 | []=>by simp[aK]
 |a::l=>by
  have ih:=FR sep l;rw[List.flatMap_cons,Qm,Qm,ih,List.length_cons,Nat.succ_mul];rw[show aK (a::l)=a.length+aK l by simp[aK]];omega
theorem Mr {sep:Zi} {l:List Zi} {i:Nat} (h:i<l.length):(l.take (i+1)).flatMap (sep++·)=(l.take i).flatMap (sep++·)++sep++l[i]:=by
 rw[List.take_succ_eq_append_getElem h,List.flatMap_append];simp
theorem EG {l:List Zi} (i:Nat):aK (l.take i)<=aK l:=by
 have:aK l=aK (l.take i)+aK (l.drop i):=by
  unfold aK;rw[<-List.sum_append,<-List.map_append,List.take_append_drop]
 omega
theorem qR (a:UInt8):({data:= #[a]}:ByteArray).data.toList.length=1:=rfl
theorem lit2 (a b:UInt8):({data:= #[a,b]}:ByteArray).data.toList.length=2:=rfl
theorem Hp (a:Zi) (l:List Zi):aK (a::l)=a.length+aK l:=by simp[aK]
section
variable {K : FuncId -> List AV -> Option AV} (hK : But K)
include hK
theorem Ih {s:St} {v:AV} {l:List Zi} (hv:aJ s v l) (hl:l.length<=1000) (hs:aK l<=100000):Cj (EK K) 114 [v] s (.J (mX l)):=by
 refine Cj.flat (fn:=Tryz.f114) (by show K 114 _=none;rw[hK _ (by decide)];rfl) U U U U U (fun _ _=>rfl) (fun _=>rfl) ?_;have hve:aJ s.u v l:=hv.aI (Qj _) fun _ _=>rfl;have hlen:=hve.len;cases l with
 |nil=>
  refine Ew U<|Sq<|Es<|qm U<|Lq (kn U hlen) U<|Lw U<|Tt U<|Ew U ?_;exact Se ⟨.inl U,U,U,_,Aa U U,U⟩
 |cons a l=>
  obtain⟨p,hp,ZV⟩:=hve.at (E:=EK K) (i:=0) (Nat.zero_lt_succ _) s9 Ia;have lJ:=Hp a l;have ZV:Zd (EK K) 9 s.u p=some (.J a):=ZV;have c1:=qR 40;have c2:=qR 41;have c3:=lit2 44 32;have sd:(a::l).length=l.length+1:=rfl;refine Ew U<|Sq<|Es<|qm U<|Lq (kn U hlen) U<|Lw U<|Tf U<|Sk<|Es<|qm U<|Lq (kv (k:=0) U hp) U<|Lo (Bs U U ZV) U<|Lq (Av U Zr U U (by omega)) U<|Lw U<|Sq<|Ew U<|Sb<|Ai (fun i:Nat=>([(4,.int .i64 (i+1:Nat)),(3,.J ([40]++a++(l.take i).flatMap ([44,32]++·))),(0,v)],s.u)) (fun i=>l.length-i) (fun i=>i<=l.length) 0 (Qo _) U (by rw[List.take_zero,List.flatMap_nil,List.append_nil];(refine Am.Ac ?_;repeat (first|exact trivial|refine⟨rfl,?_⟩))) fun i hi=>?_;have zi:=FR [44,32] (l.take i);have Zc:=EG (l:=l) i;rw[List.length_take,Nat.min_eq_left hi]at zi;have zi:((l.take i).flatMap ([44,32]++·)).length=aK (l.take i)+i*2:=zi
  have hW:([40]++a++(l.take i).flatMap ([44,32]++·)).length<=200000:=by rw[Qm,Qm,zi];show 1+a.length+_<=_;omega
  by_cases h:i<l.length
  .obtain⟨q,hq,hql⟩:=hve.at (E:=EK K) (i:=i+1) (Nat.succ_lt_succ h) s9 Ia;have hql:Zd (EK K) 9 s.u q=some (.J l[i]):=hql;have hsi:l[i].length<=aK l:=by
    have:=EG (l:=l) (i+1);unfold aK at this|-;rw[List.take_succ_eq_append_getElem h,List.map_append,List.sum_append]at this;simp at this;omega
   have fB:=Mr (sep:=[44,32]) h;generalize hWe: [40]++a++(l.take i).flatMap ([44,32]++·)=W at*;focus
    refine Sq<|Es<|Lv 2 U<|Lq (kn U hlen) U<|Lw U<|Cd U (fun h1=>?_) (fun h1=>?_);refine Sk<|Sq<|Sb<|Sr<|qm U<|Lq (Av U Zr U U (by omega)) U<|Lv 2 U<|Lq (kv U hq) U<|Lo (Bs U U hql) U<|Lq (Av U Zr U U (by grind)) U<|Lw U<|Sr<|qm U<|Lq (ka (b:=1) U (by omega)) U<|Lw U ?_;rotate_left;omega
   refine⟨i+1,h,by show l.length-(i+1)<l.length-i;omega,U,U,?_⟩;rw[fB,<-List.append_assoc,<-List.append_assoc,hWe]
   (refine Am.Ac ?_;repeat (first|exact trivial|refine⟨rfl,?_⟩))
  .obtain rfl:i=l.length:=by omega
   rw[List.take_length]at*;generalize hWe: [40]++a++l.flatMap ([44,32]++·)=W at*;focus
    refine Sq<|Es<|Lv 2 U<|Lq (kn U hlen) U<|Lw U<|Cd U (fun h1=>?_) (fun h1=>?_);omega;refine Sx<|Ax U<|Es<|qm U<|Lq (Av U Zr U U (by omega)) U<|Lw U ?_;rotate_left
   exact Se ⟨.inl U,U,U,_,Aa U U,by show AV.J (W++[41])= .J ([40]++a++l.flatMap ([44,32]++·)++[41]);rw[hWe]⟩
end
mutual
def Ct:Cc->Nat
 | .mk _ _ ks=>C5 ks+1
def C5:List Cc->Nat
 | []=>0
 |t::ts=>Ct t+C5 ts
end
def dV (o:Int):Int:=if 1<=o/\o<=5 then 6 else if o=8\/o=9 then 0 else(Yu o).1
def w_ (own asked:Int) (s:Zi):Zi:=if own<asked then [40]++s++[41]else s
def kidX (ks:List Cc) (ts:List Zi) (i:Nat) (asked:Int):Zi:=w_ (dV ((ks.map Cc.op).getD i 0)) asked (ts.getD i [])
def r8 (l:List Ci) (n:Int):Zi:=(l.getD n.toNat ([],0)).1
def ew (cs fs:List Ci) (o n:Int) (ks:List Cc) (ts:List Zi):Zi:=
 if o=1 then jq (fs.map Prod.fst) n.toNat
 else if o=2 then mW n
 else if o=3 then r8 cs n++mX ts
 else if o=4\/o=5 then r8 fs n++mX ts
 else if o=8 then [108,101,116,32]++jq (fs.map Prod.fst) n.toNat++[32,61,32]++ts.getD 0 []++[32,105,110,32]++ts.getD 1 []
 else if o=9 then [119,104,101,110,32]++ts.getD 0 []++[32,116,104,101,110,32]++ts.getD 1 []
 else kidX ks ts 0 (Yu o).2.1++(Yu o).2.2.2++kidX ks ts 1 (Yu o).2.2.1
mutual
def bg (cs fs:List Ci):Cc->Zi
 | .mk o n ks=>ew cs fs o n ks (bl cs fs ks)
def bl (cs fs:List Ci):List Cc->List Zi
 | []=>[]
 |t::ts=>bg cs fs t::bl cs fs ts
end
theorem G8 (cs fs:List Ci):∀ks:List Cc,bl cs fs ks=ks.map (bg cs fs)
 | []=>rfl
 |t::ts=>by rw[List.map_cons,<-G8 cs fs ts];rfl
def u5 (cs fs:List Ci) (t:Cc) (asked:Int):Zi:=w_ (dV t.op) asked (bg cs fs t)
theorem KH (a b:Int) (s:Zi):(w_ a b s).length<=s.length+2:=by
 unfold w_;split
 .simp only[Qm,List.length_cons,List.length_nil];omega
 .omega
theorem Ki (o:Int):0<=dV o:=by
 unfold dV Yu;repeat (first|split|decide)
theorem EZ (cs fs:List Ci) (t:Cc):u5 cs fs t 0=bg cs fs t:=by
 unfold u5 w_;rw[if_neg (by have:=Ki t.op;omega)]
theorem ML (tk:List Zi) (n:Nat):(jq tk n).length<=2:=by
 unfold jq j';split<;>simp
theorem H6 (l:List Zi):(mX l).length<=aK l+2*l.length+2:=by
 cases l with
 |nil=>exact Qo _
 |cons a l=>
  have h1:=FR [44,32] l;have h2:=Hp a l;show([40]++a++l.flatMap ([44,32]++·)++[41]).length<=_;have h3:(a::l).length=l.length+1:=rfl;rw[Qm,Qm,Qm,h1,h2,h3];show 1+a.length+(aK l+l.length*2)+1<=_;omega
theorem getD_sum (l:List Zi) (h:l.length=2):(l.getD 0 []).length+(l.getD 1 []).length=aK l:=by
 match l,h with
 | [a,b],_=>simp[aK]
theorem Sm (o:Int):(Yu o).2.2.2.length<=5:=by
 unfold Yu;repeat (first|split|decide)
theorem SW {n:Int} (h: -1000000<=n/\n<=1000000):(mW n).length<=11:=by
 have:=NG (k:=9) (n:=n.natAbs) (by omega);unfold mW;split
 .rw[List.length_cons];omega
 .omega
theorem Md {l:List Ci} (h:∀q∈l,q.1.length<=30) (n:Int):(r8 l n).length<=30:=by
 unfold r8;by_cases hn:n.toNat<l.length
 .rw[List.getD_eq_getElem?_getD,Qi hn];exact h _ (Ql hn)
 .rw[List.getD_eq_getElem?_getD,List.getElem?_eq_none (by omega)];exact Qo _
theorem Di (cs fs:List Ci) (ks:List Cc):(bl cs fs ks).length=ks.length:=by rw[G8,Qn]
theorem SO (ks:List Cc) (ts:List Zi) (i:Nat) (a:Int):(kidX ks ts i a).length<=(ts.getD i []).length+2:=KH _ _ _
theorem body_len {cs fs:List Ci} (hc:∀q∈cs,q.1.length<=30) (hf:∀q∈fs,q.1.length<=30) {o n:Int} {ks:List Cc} (hn:YJ cs fs o n (ks.length:Nat)=true) (ts:List Zi) (hl:ts.length=ks.length):
 (ew cs fs o n ks ts).length<=aK ts+2*ts.length+34:=by
 have hv:=ML (fs.map Prod.fst) n.toNat;have ha:=Md hc n;have hb:=Md hf n;have hs:=H6 ts;have hg:=Sm o;have k0:=SO ks ts 0 (Yu o).2.1;have k1:=SO ks ts 1 (Yu o).2.2.1;have two:ts.length=2->(ts.getD 0 []).length+(ts.getD 1 []).length=aK ts:=getD_sum ts;unfold ew;unfold YJ at hn;have pair:∀ {b:Bool},(decide ((ks.length:Int)=2)&&b)=true->ts.length=2:=fun h=>by
  have:=dT (Bool.and_eq_true_iff.1 h).1;omega
 by_cases e1:o=1
 .rw[if_pos e1];omega
 rw[if_neg e1]at hn|-;by_cases e2:o=2
 .rw[if_pos e2]at hn|-;have:=SW (aS.1 (Bool.and_eq_true_iff.1 hn).2);omega
 rw[if_neg e2]at hn|-;by_cases e3:o=3
 .rw[if_pos e3,Qm];omega
 rw[if_neg e3]at hn|-;by_cases e4:o=4
 .rw[if_pos (.inl e4),Qm];omega
 rw[if_neg e4]at hn;by_cases e5:o=5
 .rw[if_pos (.inr e5),Qm];omega
 rw[if_neg e5]at hn;rw[if_neg (by omega:¬(o=4\/o=5))];by_cases e8:o=8
 .rw[if_pos e8]at hn|-;have:=two (pair hn);simp only[Qm,List.length_cons,List.length_nil];omega
 rw[if_neg e8]at hn|-;by_cases e6:6<=o/\o<=15
 .rw[if_pos e6]at hn;have:=two (pair hn);by_cases e9:o=9
  .rw[if_pos e9];simp only[Qm,List.length_cons,List.length_nil];omega
  .rw[if_neg e9,Qm,Qm];omega
 .rw[if_neg e6]at hn;cases hn
mutual
theorem Fu {cs fs:List Ci} (hc:∀q∈cs,q.1.length<=30) (hf:∀q∈fs,q.1.length<=30):∀t:Cc,ZD cs fs t=true->(bg cs fs t).length+10<=60*Ct t
 | .mk o n ks,h=>by
  rw[ZD,Qf]at h;have h1:=G9 hc hf ks h.2;have h2:=body_len hc hf h.1 (bl cs fs ks) (Di cs fs ks);rw[Di]at h2;rw[bg,Ct];omega
theorem G9 {cs fs:List Ci} (hc:∀q∈cs,q.1.length<=30) (hf:∀q∈fs,q.1.length<=30):∀ks:List Cc,cp cs fs ks=true->aK (bl cs fs ks)+10*ks.length<=60*C5 ks
 | [],_=>Qj _
 |t::ts,h=>by
  rw[cp,Qf]at h;have h1:=Fu hc hf t h.1;have h2:=G9 hc hf ts h.2;rw[bl,Hp,C5,List.length_cons];omega
end
structure eG (cs fs:List Ci):Prop where
 c:∀q∈cs,q.1.length<=30
 f:∀q∈fs,q.1.length<=30
 b:cs.length<=20
 a:fs.length<=20
abbrev PxT:= {p:(List Ci×List Ci)×Cc×Int//eG p.1.1 p.1.2/\Ct p.2.1<=1000/\ZD p.1.1 p.1.2 p.2.1=true/\p.2.2<=6}
def rA (p:PxT):List AV:=[.agg [.Ca,Cp Cq 2 p.1.1.1,Cp Cq 2 p.1.1.2],.agg (Cf p.1.2.1),.int .i64 p.1.2.2]
def resPx (p:PxT):AV:= .J (u5 p.1.1.1 p.1.1.2 p.1.2.1 p.1.2.2)
theorem K7 (x y:PxT) (h:rA x=rA y):x=y:=by
 obtain⟨⟨⟨a,b⟩,t,n⟩,_⟩:=x;obtain⟨⟨⟨c,d⟩,u,m⟩,_⟩:=y;simp only[rA,List.cons.injEq,AV.agg.injEq,AV.int.injEq,true_and,and_true]at h;obtain⟨⟨h1,h2⟩,h3,rfl⟩:=h;obtain rfl:=B8 BP A0 h1;obtain rfl:=B8 BP A0 h2;obtain rfl:=AO _ _ h3;rfl
theorem BH:∀ {l:List Cc} {t:Cc},t∈l->Ct t<=C5 l
 |u::l,t,h=>by
  rw[C5];rcases Qk.1 h with rfl|h
  .omega
  .have:=BH h;omega
theorem Bo:∀l:List Cc,l.length<=C5 l
 | []=>Qj _
 |t::ts=>by
  have:=Bo ts;rw[C5,List.length_cons];have:1<=Ct t:=by cases t;rw[Ct];omega
  omega
theorem brk_atom {a:Int} {s:Zi} (h:a<=6):w_ 6 a s=s:=by
 unfold w_;rw[if_neg (by omega)]
theorem Pc {o:Int} (h:1<=o/\o<=5):dV o=6:=by unfold dV;rw[if_pos h]
theorem KJ {cs fs:List Ci} {o n a:Int} {ks:List Cc} (ho:1<=o/\o<=5) (ha:a<=6):u5 cs fs (.mk o n ks) a=ew cs fs o n ks (bl cs fs ks):=by
 show w_ (dV o) a _=_;rw[Pc ho,brk_atom ha];rfl
noncomputable abbrev LT (d:Nat):FuncId->List AV->Option AV:=A' xu 128 rA resPx (fun p=>CL p.1.2.1) d
theorem rterm_to (d:Nat) (cs fs:List Ci) (t:Cc) (a:Int) (h:CL t=d+1) (hp:eG cs fs) (hs:Ct t<=1000) (ht:ZD cs fs t=true) (ha:a<=6) (hx:LT d 128 [.agg [.Ca,Cp Cq 2 cs,Cp Cq 2 fs],.agg (Cf t),.int .i64 a]=none):
 Cj (EK (LT d)) 128 [.agg [.Ca,Cp Cq 2 cs,Cp Cq 2 fs],.agg (Cf t),.int .i64 a] S0 (.J (u5 cs fs t a)):=by
 obtain⟨o,n,ks⟩:=t;have lh:Yl ks<=d:=by have:Yl ks+1=d+1:=h;omega
 have af:C5 ks+1<=1000:=hs;obtain⟨YA,hk⟩:=Bool.and_eq_true_iff.1 (show(YJ cs fs o n (ks.length:Nat)&&cp cs fs ks)=true from ht);have wi:∀(x:Cc) (g:Int),x∈ks->g<=6->LT d 128 [.agg [.Ca,Cp Cq 2 cs,Cp Cq 2 fs],.agg (Cf x),.int .i64 g]=some (.J (u5 cs fs x g)):=fun x g hx hg=>
  DE K7 ⟨((cs,fs),x,g),hp,by have:=BH hx;dsimp only;omega,Da hk x hx,hg⟩ (Nat.le_trans (Bg hx) lh)
 have hlen:=Fu hp.c hp.f (.mk o n ks) ht;have xH:LT d 200 [Cp Cq 2 fs]=some (CY (fs.map Prod.fst)):=hq_200 (by have:=hp.a;omega);have oS:∀m:Nat,m<=30->LT d 113 [.int .i64 (m:Nat),CY (fs.map Prod.fst)]=some (.J (jq (fs.map Prod.fst) m)):=fun m hm=>hq_113 hm (by rw[Qn];have:=hp.a;omega);rw[AG]at hx|-;refine Bt (fn:=Tryz.f128) U hx (by kernel_rfl) U U U U ?_;clear hx;by_cases e1:o=1
 .subst e1;have Z2:ZZ n 0 19=true:=by
   unfold YJ at YA;rw[if_pos rfl]at YA;exact(Bool.and_eq_true_iff.1 YA).2
  obtain⟨i0,i1⟩:=aS.1 Z2;obtain⟨m,rfl⟩:=Int.eq_ofNat_of_zero_le i0;have sQ:=xH;have sR:=oS m (by omega);clear wi oS xH;refine Eh U ?_;iterate 3 refine Ew U ?_
  refine Sq<|Eh U<|Sb<|Ew U<|Tt U<|Af (by kernel_rfl)<|Nv 1 U<|Ad U GM Eo U U U (by kernel_rfl) (.inl U) U U<|Nv 2 U<|Ad U EC E9 U U U (by kernel_rfl) (.inl U) U U<|Na (kC U (sQ)) (.inl U) U<|Na (kC U (sR)) (.inl U) U<|Nw U<|Se (Er U ?_);rw[KJ (by decide) ha];rfl
 by_cases e2:o=2
 .subst e2;have Z2:ZZ n (-1000000) 1000000=true:=by
   unfold YJ at YA;rw[if_neg (by decide),if_pos rfl]at YA;exact(Bool.and_eq_true_iff.1 YA).2
  obtain⟨i0,i1⟩:=aS.1 Z2;have kH:LT d 201 [.int .i64 n]=some (.J (mW n)):=hq_201 ⟨by omega,by omega⟩;clear wi oS xH;refine Eh U ?_;iterate 3 refine Ew U ?_
  refine Sq<|Eh U<|Sb<|Ew U<|Tf U<|Ew U<|Tt U<|Es<|Ls 2 U<|Lo (kc U (kH)) U<|Lw U<|Se (Er U ?_);rw[KJ (by decide) ha];rfl
 by_cases e3:o=3
 .subst e3;have Z2:ZZ n 0 ((cs.length:Int)-1)=true:=by
   unfold YJ at YA;rw[if_neg (by decide),if_neg (by decide),if_pos rfl]at YA;exact(Bool.and_eq_true_iff.1 YA).1
  obtain⟨i0,i1⟩:=aS.1 Z2;obtain⟨m,rfl⟩:=Int.eq_ofNat_of_zero_le i0;have hm:m<cs.length:=by omega
  rw[KJ (by decide) ha,show ew cs fs 3 (m:Nat) ks (bl cs fs ks)=r8 cs (m:Nat)++mX (bl cs fs ks)from rfl];have nG:=G8 cs fs ks;have uz:ks.length<=1000:=Nat.le_trans (Bo ks) (by omega);refine Eh U ?_;iterate 3 refine Ew U ?_
  refine Sq<|Eh U<|Sb<|Ew U<|Tf U<|Ew U<|Tf U<|Sq<|Ew U<|Tt U<|Sk<|Tt U<|Sq<|Ew U<|Sb<|Ai (fun x:Nat×AV×St=>([(10,.int .i64 (x.1:Nat)),(7,x.2.1),(4,.Z 1 0),(3,.Z 0 0)],x.2.2)) (fun x=>ks.length-x.1)
   (fun x=>x.1<=ks.length/\x.2.2.b=0/\x.2.2.c=[]/\2<=x.2.2.a/\(∀c,CT c x.2.1=true->2<=c)/\x.2.2.heap.u 0=some (.J [.Ca,Cp Cq 2 cs,Cp Cq 2 fs] 111 false)/\x.2.2.heap.u 1=some (.J [.int .i64 3,.int .i64 m,Cs ks] 47 false)/\c_ x.2.2 9 1 x.2.1 (((ks.take x.1).map (bg cs fs)).map .J) x.1)
   (0,.Ca,_) ⟨Qo _,rfl,rfl,Qj _,(fun _ h=>by cases h),(AD 0).trans rfl,(AD 1).trans rfl,c_.nil _ _ _⟩ rfl (Ac (by repeat' constructor)) ?_
  rintro⟨i,v,st⟩ ⟨hi,aO,Z9,fB,tq,kA,ff,dy⟩;dsimp only at hi aO Z9 fB tq kA ff dy|-;by_cases h:i<ks.length
  .have YK:=BD h;have YH:=wi ks[i] 0 (Ql h) (by decide);rw[EZ]at YH;rw[Ak]at YK YH;focus
    refine Sq<|Es<|Lv 2 U<|Lo (kl U ff U) U<|Lw U<|Cd U (fun h1=>?_) (fun h1=>?_);refine Sk<|Sq<|Sb<|BU (by kernel_rfl)<|Nv 1 U<|NM U kA U (.inl U) U<|Nv 1 U<|Nm U ff U (.inl U) U<|Nv 1 U<|Nq (kv U YK) U<|Nv 1 U<|Na (kC U (YH)) (.inl U) U<|B4 U MM Ia tn U U U (.inl U) U U ?_;rotate_left;omega
   refine I9 dy (by rw[aO];exact Qo _) U (by decide) (AP (by omega) (by decide)) (AP (by omega) (by decide)) U U U U MM Ia sH tn (by kernel_rfl) (by kernel_rfl) U U (by kernel_rfl) (by kernel_rfl) (.inl U) U U fun v6 s6 nl6 f6 o6 c6 l6 bu=>?_;have hn6:=c6.a;have ec:∀c,c<2->s6.heap.u c=st.heap.u c:=fun c hc=>c6.heap c (by omega) fun e=>by have:=tq c e;omega
   refine Nw U<|Sr<|qm U<|Lq (ka (b:=1) U (by omega)) U<|Lw U ?_;refine⟨(i+1,v6,s6),⟨h,c6.b.trans aO,List.eq_nil_iff_forall_not_mem.2 fun c hc=>?_,by dsimp only;omega,fun c hc=>by have:=o6 c hc;omega,(ec 0 (by decide)).trans kA,(ec 1 (by decide)).trans ff,?_⟩,by show ks.length-(i+1)<ks.length-i;omega,rfl,rfl,Ac (by repeat' constructor)⟩
   .rcases c6.d c hc with h1|h1
    .rw[Z9]at h1;cases h1
    .omega
   .rw[List.take_succ_eq_append_getElem h,List.map_append,List.map_append];exact f6
  .obtain rfl:i=ks.length:=by omega
   have YK:=A6 A0 hm;unfold Cq at YK;rw[List.take_length,<-nG]at dy;have ZV:(bl cs fs ks).length=ks.length:=Di cs fs ks;have wL:=G9 hp.c hp.f ks hk;have sd:=H6 (bl cs fs ks);have dH:=hp.c _ (Ql hm);have hna:r8 cs (m:Nat)=cs[m].1:=by unfold r8;rw[Int.toNat_natCast,List.getD_eq_getElem?_getD,Qi hm];rfl
   rw[hna];focus
    refine Sq<|Es<|Lv 2 U<|Lo (kl U ff U) U<|Lw U<|Cd U (fun h1=>?_) (fun h1=>?_);omega;refine Sx<|Ax U<|Sq<|Es<|Lv 1 U<|Lo (kl U ff U) U<|Lw U<|Tt U<|Af (by kernel_rfl)<|Nv 2 U<|Nm U kA U (.inl U) U<|Nv 1 U<|Nm U ff U (.inl U) U<|Nq (kv U YK) U<|Nv 3 U ?_;rotate_left
   refine I8 (by kernel_rfl) U U U (Ih But.add (s:=st.J st.heap) ((dy.aI (Qj _) fun _ _=>rfl).strs ZV.symm) (by omega) (by omega)).runsR (by kernel_rfl) (.inl U) U U<|Nq (Av U Zr U U (by omega)) U<|Nw U<|Se ⟨.inl U,U,Z9,aO,_,_,_,(Aa U U),U,U,U⟩
 by_cases e4:o=4
 .subst e4;have Z2:ZZ n 0 ((fs.length:Int)-1)=true:=by
   unfold YJ at YA;rw[if_neg (by decide),if_neg (by decide),if_neg (by decide),if_pos rfl]at YA;exact(Bool.and_eq_true_iff.1 YA).1
  obtain⟨i0,i1⟩:=aS.1 Z2;obtain⟨m,rfl⟩:=Int.eq_ofNat_of_zero_le i0;have hm:m<fs.length:=by omega
  rw[KJ (by decide) ha,show ew cs fs 4 (m:Nat) ks (bl cs fs ks)=r8 fs (m:Nat)++mX (bl cs fs ks)from rfl];have nG:=G8 cs fs ks;have uz:ks.length<=1000:=Nat.le_trans (Bo ks) (by omega);refine Eh U ?_;iterate 3 refine Ew U ?_
  refine Sq<|Eh U<|Sb<|Ew U<|Tf U<|Ew U<|Tf U<|Sq<|Ew U<|Tf U<|Ew U<|Tt U<|Sk<|Tt U<|Sq<|Ew U<|Sb<|Ai (fun x:Nat×AV×St=>([(10,.int .i64 (x.1:Nat)),(7,x.2.1),(4,.Z 1 0),(3,.Z 0 0)],x.2.2)) (fun x=>ks.length-x.1)
   (fun x=>x.1<=ks.length/\x.2.2.b=0/\x.2.2.c=[]/\2<=x.2.2.a/\(∀c,CT c x.2.1=true->2<=c)/\x.2.2.heap.u 0=some (.J [.Ca,Cp Cq 2 cs,Cp Cq 2 fs] 111 false)/\x.2.2.heap.u 1=some (.J [.int .i64 4,.int .i64 m,Cs ks] 47 false)/\c_ x.2.2 9 1 x.2.1 (((ks.take x.1).map (bg cs fs)).map .J) x.1)
   (0,.Ca,_) ⟨Qo _,rfl,rfl,Qj _,(fun _ h=>by cases h),(AD 0).trans rfl,(AD 1).trans rfl,c_.nil _ _ _⟩ rfl (Ac (by repeat' constructor)) ?_
  rintro⟨i,v,st⟩ ⟨hi,aO,Z9,fB,tq,kA,ff,dy⟩;dsimp only at hi aO Z9 fB tq kA ff dy|-;by_cases h:i<ks.length
  .have YK:=BD h;have YH:=wi ks[i] 0 (Ql h) (by decide);rw[EZ]at YH;rw[Ak]at YK YH;focus
    refine Sq<|Es<|Lv 2 U<|Lo (kl U ff U) U<|Lw U<|Cd U (fun h1=>?_) (fun h1=>?_);refine Sk<|Sq<|Sb<|BU (by kernel_rfl)<|Nv 1 U<|NM U kA U (.inl U) U<|Nv 1 U<|Nm U ff U (.inl U) U<|Nv 1 U<|Nq (kv U YK) U<|Nv 1 U<|Na (kC U (YH)) (.inl U) U<|B4 U MM Ia tn U U U (.inl U) U U ?_;rotate_left;omega
   refine I9 dy (by rw[aO];exact Qo _) U (by decide) (AP (by omega) (by decide)) (AP (by omega) (by decide)) U U U U MM Ia sH tn (by kernel_rfl) (by kernel_rfl) U U (by kernel_rfl) (by kernel_rfl) (.inl U) U U fun v6 s6 nl6 f6 o6 c6 l6 bu=>?_;have hn6:=c6.a;have ec:∀c,c<2->s6.heap.u c=st.heap.u c:=fun c hc=>c6.heap c (by omega) fun e=>by have:=tq c e;omega
   refine Nw U<|Sr<|qm U<|Lq (ka (b:=1) U (by omega)) U<|Lw U ?_;refine⟨(i+1,v6,s6),⟨h,c6.b.trans aO,List.eq_nil_iff_forall_not_mem.2 fun c hc=>?_,by dsimp only;omega,fun c hc=>by have:=o6 c hc;omega,(ec 0 (by decide)).trans kA,(ec 1 (by decide)).trans ff,?_⟩,by show ks.length-(i+1)<ks.length-i;omega,rfl,rfl,Ac (by repeat' constructor)⟩
   .rcases c6.d c hc with h1|h1
    .rw[Z9]at h1;cases h1
    .omega
   .rw[List.take_succ_eq_append_getElem h,List.map_append,List.map_append];exact f6
  .obtain rfl:i=ks.length:=by omega
   have YK:=A6 A0 hm;unfold Cq at YK;rw[List.take_length,<-nG]at dy;have ZV:(bl cs fs ks).length=ks.length:=Di cs fs ks;have wL:=G9 hp.c hp.f ks hk;have sd:=H6 (bl cs fs ks);have dH:=hp.f _ (Ql hm);have hna:r8 fs (m:Nat)=fs[m].1:=by unfold r8;rw[Int.toNat_natCast,List.getD_eq_getElem?_getD,Qi hm];rfl
   rw[hna];focus
    refine Sq<|Es<|Lv 2 U<|Lo (kl U ff U) U<|Lw U<|Cd U (fun h1=>?_) (fun h1=>?_);omega;refine Sx<|Ax U<|Sq<|Es<|Lv 1 U<|Lo (kl U ff U) U<|Lw U<|Tf U<|Sk<|Af (by kernel_rfl)<|Nv 2 U<|Nm U kA U (.inl U) U<|Nv 1 U<|Nm U ff U (.inl U) U<|Nq (kv U YK) U<|Nv 3 U ?_;rotate_left
   refine I8 (by kernel_rfl) U U U (Ih But.add (s:=st.J st.heap) ((dy.aI (Qj _) fun _ _=>rfl).strs ZV.symm) (by omega) (by omega)).runsR (by kernel_rfl) (.inl U) U U<|Nq (Av U Zr U U (by omega)) U<|Nw U<|Se ⟨.inl U,U,Z9,aO,_,_,_,(Aa U U),U,U,U⟩
 by_cases e5:o=5
 .subst e5;have Z2:ZZ n 0 ((fs.length:Int)-1)=true:=by
   unfold YJ at YA;rw[if_neg (by decide),if_neg (by decide),if_neg (by decide),if_neg (by decide),if_pos rfl]at YA;exact(Bool.and_eq_true_iff.1 YA).1
  obtain⟨i0,i1⟩:=aS.1 Z2;obtain⟨m,rfl⟩:=Int.eq_ofNat_of_zero_le i0;have hm:m<fs.length:=by omega
  rw[KJ (by decide) ha,show ew cs fs 5 (m:Nat) ks (bl cs fs ks)=r8 fs (m:Nat)++mX (bl cs fs ks)from rfl];have nG:=G8 cs fs ks;have uz:ks.length<=1000:=Nat.le_trans (Bo ks) (by omega);refine Eh U ?_;iterate 3 refine Ew U ?_
  refine Sq<|Eh U<|Sb<|Ew U<|Tf U<|Ew U<|Tf U<|Sq<|Ew U<|Tf U<|Ew U<|Tf U<|Sr<|Lw U<|Tt U<|Sq<|Ew U<|Sb<|Ai (fun x:Nat×AV×St=>([(10,.int .i64 (x.1:Nat)),(7,x.2.1),(4,.Z 1 0),(3,.Z 0 0)],x.2.2)) (fun x=>ks.length-x.1)
   (fun x=>x.1<=ks.length/\x.2.2.b=0/\x.2.2.c=[]/\2<=x.2.2.a/\(∀c,CT c x.2.1=true->2<=c)/\x.2.2.heap.u 0=some (.J [.Ca,Cp Cq 2 cs,Cp Cq 2 fs] 111 false)/\x.2.2.heap.u 1=some (.J [.int .i64 5,.int .i64 m,Cs ks] 47 false)/\c_ x.2.2 9 1 x.2.1 (((ks.take x.1).map (bg cs fs)).map .J) x.1)
   (0,.Ca,_) ⟨Qo _,rfl,rfl,Qj _,(fun _ h=>by cases h),(AD 0).trans rfl,(AD 1).trans rfl,c_.nil _ _ _⟩ rfl (Ac (by repeat' constructor)) ?_
  rintro⟨i,v,st⟩ ⟨hi,aO,Z9,fB,tq,kA,ff,dy⟩;dsimp only at hi aO Z9 fB tq kA ff dy|-;by_cases h:i<ks.length
  .have YK:=BD h;have YH:=wi ks[i] 0 (Ql h) (by decide);rw[EZ]at YH;rw[Ak]at YK YH;focus
    refine Sq<|Es<|Lv 2 U<|Lo (kl U ff U) U<|Lw U<|Cd U (fun h1=>?_) (fun h1=>?_);refine Sk<|Sq<|Sb<|BU (by kernel_rfl)<|Nv 1 U<|NM U kA U (.inl U) U<|Nv 1 U<|Nm U ff U (.inl U) U<|Nv 1 U<|Nq (kv U YK) U<|Nv 1 U<|Na (kC U (YH)) (.inl U) U<|B4 U MM Ia tn U U U (.inl U) U U ?_;rotate_left;omega
   refine I9 dy (by rw[aO];exact Qo _) U (by decide) (AP (by omega) (by decide)) (AP (by omega) (by decide)) U U U U MM Ia sH tn (by kernel_rfl) (by kernel_rfl) U U (by kernel_rfl) (by kernel_rfl) (.inl U) U U fun v6 s6 nl6 f6 o6 c6 l6 bu=>?_;have hn6:=c6.a;have ec:∀c,c<2->s6.heap.u c=st.heap.u c:=fun c hc=>c6.heap c (by omega) fun e=>by have:=tq c e;omega
   refine Nw U<|Sr<|qm U<|Lq (ka (b:=1) U (by omega)) U<|Lw U ?_;refine⟨(i+1,v6,s6),⟨h,c6.b.trans aO,List.eq_nil_iff_forall_not_mem.2 fun c hc=>?_,by dsimp only;omega,fun c hc=>by have:=o6 c hc;omega,(ec 0 (by decide)).trans kA,(ec 1 (by decide)).trans ff,?_⟩,by show ks.length-(i+1)<ks.length-i;omega,rfl,rfl,Ac (by repeat' constructor)⟩
   .rcases c6.d c hc with h1|h1
    .rw[Z9]at h1;cases h1
    .omega
   .rw[List.take_succ_eq_append_getElem h,List.map_append,List.map_append];exact f6
  .obtain rfl:i=ks.length:=by omega
   have YK:=A6 A0 hm;unfold Cq at YK;rw[List.take_length,<-nG]at dy;have ZV:(bl cs fs ks).length=ks.length:=Di cs fs ks;have wL:=G9 hp.c hp.f ks hk;have sd:=H6 (bl cs fs ks);have dH:=hp.f _ (Ql hm);have hna:r8 fs (m:Nat)=fs[m].1:=by unfold r8;rw[Int.toNat_natCast,List.getD_eq_getElem?_getD,Qi hm];rfl
   rw[hna];focus
    refine Sq<|Es<|Lv 2 U<|Lo (kl U ff U) U<|Lw U<|Cd U (fun h1=>?_) (fun h1=>?_);omega;refine Sx<|Ax U<|Sq<|Es<|Lv 1 U<|Lo (kl U ff U) U<|Lw U<|Tf U<|Sk<|Af (by kernel_rfl)<|Nv 2 U<|Nm U kA U (.inl U) U<|Nv 1 U<|Nm U ff U (.inl U) U<|Nq (kv U YK) U<|Nv 3 U ?_;rotate_left
   refine I8 (by kernel_rfl) U U U (Ih But.add (s:=st.J st.heap) ((dy.aI (Qj _) fun _ _=>rfl).strs ZV.symm) (by omega) (by omega)).runsR (by kernel_rfl) (.inl U) U U<|Nq (Av U Zr U U (by omega)) U<|Nw U<|Se ⟨.inl U,U,Z9,aO,_,_,_,(Aa U U),U,U,U⟩
 have hr:(o=8\/6<=o/\o<=15)/\ks.length=2/\(o=8->ZZ n 0 19=true):=by
  unfold YJ at YA;rw[if_neg e1,if_neg e2,if_neg e3,if_neg e4,if_neg e5]at YA;split at YA
  .next e=>have:=Bool.and_eq_true_iff.1 YA;exact⟨.inl e,by have:=dT this.1;omega,fun _=>this.2⟩
  .next e8=>
   split at YA
   .next e=>have:=Bool.and_eq_true_iff.1 YA;exact⟨.inr e,by have:=dT this.1;omega,fun e=>absurd e e8⟩
   .cases YA
 obtain⟨ho,mf,hv8⟩:=hr;obtain⟨x,y,rfl⟩:∃x y,ks=[x,y]:=by
  match ks,mf with
  | [x,y],_=>exact⟨x,y,rfl⟩
 have qk:=BD (l:=[x,y]) (i:=0) (Nat.zero_lt_succ _);have ql:=BD (l:=[x,y]) (i:=1) (Nat.lt_succ_self _);rw[show [x,y][0]=x from rfl,Ak]at qk;rw[show [x,y][1]=y from rfl,Ak]at ql;have c1:=qR 40;have c2:=qR 41;have hX:=Fu hp.c hp.f x (Da hk x (Qh ..));have hY:=Fu hp.c hp.f y (Da hk y (Qg _ (Qh ..)));have nX:=BH (l:=[x,y]) (t:=x) (Qh ..);have nY:=BH (l:=[x,y]) (t:=y) (Qg _ (Qh ..));clear hlen ht YA hk;by_cases e8:o=8
 .subst e8;obtain⟨i0,i1⟩:=aS.1 (hv8 rfl);obtain⟨m,rfl⟩:=Int.eq_ofNat_of_zero_le i0;have sQ:=xH;have sR:=oS m (by omega);have YH:=wi x 0 (Qh ..) (by decide);have c7:=wi y 0 (Qg _ (Qh ..)) (by decide);rw[EZ]at YH c7;rw[Ak x]at YH;rw[Ak y]at c7;have hV:=ML (fs.map Prod.fst) m;have c3:({data:= #[108,101,116,32]}:ByteArray).data.toList.length=4:=rfl;have c4:({data:= #[32,61,32]}:ByteArray).data.toList.length=3:=rfl;have c5:({data:= #[32,105,110,32]}:ByteArray).data.toList.length=4:=rfl;have nq:u5 cs fs (.mk 8 (m:Nat) [x,y]) a=w_ 0 a (ew cs fs 8 (m:Nat) [x,y] [bg cs fs x,bg cs fs y]):=rfl;rw[nq,show ew cs fs 8 (m:Nat) [x,y] [bg cs fs x,bg cs fs y]=[108,101,116,32]++jq (fs.map Prod.fst) m++[32,61,32]++bg cs fs x++[32,105,110,32]++bg cs fs y from rfl];clear wi oS xH nq;generalize bg cs fs x=X at*
  generalize bg cs fs y=Y at*;generalize jq (fs.map Prod.fst) m=V at*;focus
   refine Eh U ?_;iterate 3 refine Ew U ?_
   refine Sq<|Eh U<|Sb<|Ew U<|Tf U<|Ew U<|Tf U<|Sq<|Ew U<|Tf U<|Ew U<|Tf U<|Sr<|Lw U<|Tf U<|Ew U<|Tt U<|BU (by kernel_rfl)<|Nv 1 U<|Ad U GM Eo U U U (by kernel_rfl) (.inl U) U U<|Nv 2 U<|Ad U EC E9 U U U (by kernel_rfl) (.inl U) U U<|Na (kC U (sQ)) (.inl U) U<|Na (kC U (sR)) (.inl U) U ?_;iterate 2 refine Nq (Av U Zr U U (by first|assumption|omega|(simp only[LL];omega))) U ?_
   refine A9 U MA LI U U (Qc U) (by kernel_rfl) (.inl U) U U<|Nv 1 U<|Ad U Ep En U U U (by kernel_rfl) (.inl U) U U<|Nq (kv (k:=0) U qk) U<|Nv 1 U<|Na (kC U (YH)) (.inl U) U ?_;iterate 2 refine Nq (Av U Zr U U (by first|assumption|omega|(simp only[LL];omega))) U ?_
   refine A9 U MA LI U U (Qc U) (by kernel_rfl) (.inl U) U U<|Nv 1 U<|Ad U Ep En U U U (by kernel_rfl) (.inl U) U U<|Nq (kv (k:=1) U ql) U<|Nv 1 U<|Na (kC U (c7)) (.inl U) U<|Nq (Av U Zr U U (by first|assumption|omega|(simp only[LL];omega))) U<|Nw U<|Sq<|Ew U<|Cd U (fun h1=>?_) (fun h1=>?_);refine Es<|qm U ?_;iterate 2 refine Lq (Av U Zr U U (by first|assumption|omega|(simp only[LL];omega))) U ?_
   refine Lw U<|Se (Er U ?_);rotate_left;refine Sk<|Ew U<|Se (Er U ?_);rotate_left
  .unfold w_;rw[if_pos h1]
  .unfold w_;rw[if_neg h1]
 by_cases e9:o=9
 .subst e9;have YH:=wi x 0 (Qh ..) (by decide);have c7:=wi y 0 (Qg _ (Qh ..)) (by decide);rw[EZ]at YH c7;rw[Ak x]at YH;rw[Ak y]at c7;have c3:({data:= #[119,104,101,110,32]}:ByteArray).data.toList.length=5:=rfl;have c4:({data:= #[32,116,104,101,110,32]}:ByteArray).data.toList.length=6:=rfl;have nq:u5 cs fs (.mk 9 n [x,y]) a=w_ 0 a (ew cs fs 9 n [x,y] [bg cs fs x,bg cs fs y]):=rfl;rw[nq,show ew cs fs 9 n [x,y] [bg cs fs x,bg cs fs y]=[119,104,101,110,32]++bg cs fs x++[32,116,104,101,110,32]++bg cs fs y from rfl];clear wi oS xH nq;generalize bg cs fs x=X at*;generalize bg cs fs y=Y at*;focus
   refine Eh U ?_;iterate 3 refine Ew U ?_
   refine Sq<|Eh U<|Sb<|Ew U<|Tf U<|Ew U<|Tf U<|Sq<|Ew U<|Tf U<|Ew U<|Tf U<|Sr<|Lw U<|Tf U<|Ew U<|Tf U<|Ew U<|Tt U<|BU (by kernel_rfl)<|A9 U MA LI U U (Qc U) (by kernel_rfl) (.inl U) U U<|Nv 1 U<|Ad U Ep En U U U (by kernel_rfl) (.inl U) U U<|Nq (kv (k:=0) U qk) U<|Nv 1 U<|Na (kC U (YH)) (.inl U) U ?_;iterate 2 refine Nq (Av U Zr U U (by first|assumption|omega|(simp only[LL];omega))) U ?_
   refine A9 U MA LI U U (Qc U) (by kernel_rfl) (.inl U) U U<|Nv 1 U<|Ad U Ep En U U U (by kernel_rfl) (.inl U) U U<|Nq (kv (k:=1) U ql) U<|Nv 1 U<|Na (kC U (c7)) (.inl U) U<|Nq (Av U Zr U U (by first|assumption|omega|(simp only[LL];omega))) U<|Nw U<|Sq<|Ew U<|Cd U (fun h1=>?_) (fun h1=>?_);refine Es<|qm U ?_;iterate 2 refine Lq (Av U Zr U U (by first|assumption|omega|(simp only[LL];omega))) U ?_
   refine Lw U<|Se (Er U ?_);rotate_left;refine Sk<|Ew U<|Se (Er U ?_);rotate_left
  .unfold w_;rw[if_pos h1]
  .unfold w_;rw[if_neg h1]
 have ss:(Yu o).2.1<=6/\(Yu o).2.2.1<=6:=by unfold Yu;repeat (first|split|decide)
 have hit_202:LT d 202 [.int .i64 o]=some (.O [.int .i64 (Yu o).1,.int .i64 (Yu o).2.1,.int .i64 (Yu o).2.2.1,.J (Yu o).2.2.2]):=hq_202;have YH:=wi x (Yu o).2.1 (Qh ..) ss.1;have c7:=wi y (Yu o).2.2.1 (Qg _ (Qh ..)) ss.2;rw[Ak x]at YH;rw[Ak y]at c7;have kG:=Sm o;have bX:=KH (dV x.op) (Yu o).2.1 (bg cs fs x);have bY:=KH (dV y.op) (Yu o).2.2.1 (bg cs fs y);have nq:u5 cs fs (.mk o n [x,y]) a=w_ (Yu o).1 a (u5 cs fs x (Yu o).2.1++(Yu o).2.2.2++u5 cs fs y (Yu o).2.2.1):=by
  show w_ (dV o) a (ew cs fs o n [x,y] [bg cs fs x,bg cs fs y])=_;rw[show dV o=(Yu o).1 by unfold dV;rw[if_neg (by omega),if_neg (by omega)]];unfold ew;rw[if_neg e1,if_neg e2,if_neg (by omega),if_neg (by omega),if_neg e8,if_neg e9];rfl
 rw[nq];have bX:(u5 cs fs x (Yu o).2.1).length<=(bg cs fs x).length+2:=bX;have bY:(u5 cs fs y (Yu o).2.2.1).length<=(bg cs fs y).length+2:=bY;clear wi oS xH nq ss;generalize u5 cs fs x (Yu o).2.1=X at*;generalize u5 cs fs y (Yu o).2.2.1=Y at*;generalize Yu o=q at*;focus
  refine Eh U ?_;iterate 3 refine Ew U ?_
  refine Sq<|Eh U<|Sb<|Ew U<|Cd U (fun h1=>?_) (fun h1=>?_);omega;refine Ew U<|Cd U (fun h2=>?_) (fun h2=>?_);omega;refine Sq<|Ew U<|Cd U (fun h3=>?_) (fun h3=>?_);omega;refine Ew U<|Cd U (fun h4=>?_) (fun h4=>?_);omega;refine Sr<|Lw U<|Cd U (fun h5=>?_) (fun h5=>?_);omega;refine Ew U<|Cd U (fun h6=>?_) (fun h6=>?_);omega;refine Ew U<|Cd U (fun h7=>?_) (fun h7=>?_);omega;refine Es<|Ls 2 U<|Lo (kc U (hit_202)) U<|Lw U<|Ew U<|BU (by kernel_rfl)<|A9 U MA LI U U (Qc U) (by kernel_rfl) (.inl U) U U<|Nv 1 U<|Ad U Ep En U U U (by kernel_rfl) (.inl U) U U<|Nq (kv (k:=0) U qk) U<|Nv 2 U<|Na (kC U (YH)) (.inl U) U<|Nv 1 U<|Nq (Av U Zr U U (by omega)) U<|A9 U MA LI U U (Qc U) (by kernel_rfl) (.inl U) U U<|Nv 1 U<|Ad U Ep En U U U (by kernel_rfl) (.inl U) U U<|Nq (kv (k:=1) U ql) U<|Nv 2 U<|Na (kC U (c7)) (.inl U) U<|Nq (Av U Zr U U (by first|assumption|omega|(simp only[LL];omega))) U<|Nw U<|Sq<|Ew U<|Cd U (fun h8=>?_) (fun h8=>?_);refine Es<|qm U ?_;iterate 2 refine Lq (Av U Zr U U (by first|assumption|omega|(simp only[LL];omega))) U ?_
  refine Lw U<|Se (Er U ?_);rotate_left;refine Sk<|Ew U<|Se (Er U ?_);rotate_left
 .unfold w_;rw[if_pos h8]
 .unfold w_;rw[if_neg h8]
noncomputable def KP20:=CX xu 128 rA resPx
theorem hq_128 {cs fs:List Ci} {t:Cc} {a:Int} (hp:eG cs fs) (hs:Ct t<=1000) (ht:ZD cs fs t=true) (ha:a<=6):KP20 128 [.agg [.Ca,Cp Cq 2 cs,Cp Cq 2 fs],.agg (Cf t),.int .i64 a]=some (.J (u5 cs fs t a)):=Aj (enc:=rA) (fun a b h=>by rw[K7 a b h]) ⟨((cs,fs),t,a),hp,hs,ht,ha⟩
theorem pall20 (h:CM Tryz.prog 8 [] (.bool true)):Co Tryz.prog gn KP20:=
 Lt (deep:=fun p:PxT=>CL p.1.2.1) Aw Ag (pall19 h) K7 (fun p=>Dt p.1.2.1) (fun p=>by
  show(Cm 40 (.agg [.Ca,Cp Cq 2 p.1.1.1,Cp Cq 2 p.1.1.2])&&(AV.agg (Cf p.1.2.1)::[.int .i64 p.1.2.2]).all (Cm 40))=true;rw[List.all_cons,AU];rfl) (fun _=>rfl) fun d p hp hx=>rterm_to d p.1.1.1 p.1.1.2 p.1.2.1 p.1.2.2 hp p.2.1 p.2.2.1 p.2.2.2.1 p.2.2.2.2 hx
abbrev SxT:= {p:(List Ci×List Ci)×Cc//eG p.1.1 p.1.2/\Ct p.2<=1000/\ZD p.1.1 p.1.2 p.2=true}
def uj (p:SxT):List AV:=[CH p.1.1.1 p.1.1.2,.agg (Cf p.1.2)]
def resSx (p:SxT):AV:= .J (bg p.1.1.1 p.1.1.2 p.1.2)
theorem X1 (x y:SxT) (h:uj x=uj y):x=y:=by
 obtain⟨⟨⟨a,b⟩,t⟩,_⟩:=x;obtain⟨⟨⟨c,d⟩,u⟩,_⟩:=y;simp only[uj,List.cons.injEq,AV.agg.injEq,and_true]at h;obtain⟨rfl,rfl⟩:=Dr h.1;obtain rfl:=AO _ _ h.2;rfl
theorem V5 (cs fs:List Ci) (t:Cc) (hp:eG cs fs) (hs:Ct t<=1000) (ht:ZD cs fs t=true):Cj (EK KP20) 63 [CH cs fs,.agg (Cf t)] S0 (.J (bg cs fs t)):=by
 have YH:=hq_128 hp hs ht (a:=0) (by decide);rw[EZ]at YH;rw[Ak]at YH|-;unfold CH;refine As U<|Eh U<|Es<|Ls 3 U<|Lo (kc U (YH)) U<|Lw U<|Se (Er U U)
noncomputable def KP21:=CX KP20 63 uj resSx
theorem hq_63 {cs fs:List Ci} {t:Cc} (hp:eG cs fs) (hs:Ct t<=1000) (ht:ZD cs fs t=true):KP21 63 [CH cs fs,.agg (Cf t)]=some (.J (bg cs fs t)):=Aj (enc:=uj) (fun a b h=>by rw[X1 a b h]) ⟨((cs,fs),t),hp,hs,ht⟩
def jS (w:Zi):AV:=if 3000<w.length then .O [.J [],.int .i64 3]else .O [.J w,.int .i64 0]
theorem short_to (w:Zi):Cj (EK KP21) 49 [.J w] S0 (jS w):=by
 refine As U ?_;unfold jS;focus
  refine Ew U<|Sq<|Es<|qm U<|Lq (Az U U U U Zr U) U<|Lw U<|Cd U (fun h1=>?_) (fun h1=>?_);refine Ew U<|Se ⟨.inl U,U,U,U,_,_,_,(Aa U (Aa U U)),U,U,?_⟩;rotate_left;refine Sk<|Ew U<|Se ⟨.inl U,U,U,U,_,_,_,(Aa U (Aa U U)),U,U,?_⟩;rotate_left
 .rw[if_pos (by omega)]
 .rw[if_neg (by omega)]
noncomputable def KP22:=CX KP21 49 (fun w:Zi=>[.J w]) jS
theorem hq_49 {w:Zi}:KP22 49 [.J w]=some (jS w):=Aj (fun a b h=>by rw[AV.J.inj (List.cons.inj h).1]) w
theorem pall22 (h:CM Tryz.prog 8 [] (.bool true)):Co Tryz.prog gn KP22:=by
 have a1:Co Tryz.prog gn KP21:=Al Aw Ag (pall20 h) (fun p:SxT=>V5 p.1.1.1 p.1.1.2 p.1.2 p.2.1 p.2.2.1 p.2.2.2) (fun p=>by
  show(Cm 40 (CH _ _)&&(Cm 40 (.agg (Cf p.1.2))&&true))=true;rw[AU];rfl) (fun _=>rfl)
 exact Al Aw Ag a1 short_to (fun _=>rfl) (fun w=>by unfold jS;split<;>rfl)
def cT:List Int->Int->List Int
 | [],n=>[n]
 |a::l,n=>if a<n then a::cT l n else if a=n then a::l else n::a::l
theorem Np {n x:Int}:∀ {l:List Int},x∈cT l n↔x=n\/x∈l
 | []=>by simp[cT]
 |a::l=>by
  unfold cT;split
  .rw[Qk,Np,Qk];constructor<;>intro h<;>rcases h with h|h|h<;>simp[h]
  .split
   .next h=>
    subst h;exact⟨.inr,fun h=>h.elim (fun e=>e▸Qh) id⟩
   .simp only[Qk]
abbrev kS (l:List Int):Prop:=l.Pairwise (· <·)
theorem JH {n:Int}:∀ {l:List Int},kS l->kS (cT l n)
 | [],_=>List.pairwise_singleton _ _
 |a::l,h=>by
  have h1:=List.pairwise_cons.1 h;unfold cT;split
  .next ha=>
   refine List.pairwise_cons.2 ⟨fun x hx=>?_,JH h1.2⟩;rcases Np.1 hx with rfl|hx
   .exact ha
   .exact h1.1 x hx
  .split
   .exact h
   .next ha hb=>
    refine List.pairwise_cons.2 ⟨fun x hx=>?_,h⟩;rcases Qk.1 hx with rfl|hx
    .omega
    .have:=h1.1 x hx;omega
theorem Sy {n:Int}:∀ {l:List Int},kS l->(cT l n).length=if n∈l then l.length else l.length+1
 | [],_=>rfl
 |a::l,h=>by
  have h1:=List.pairwise_cons.1 h;unfold cT;by_cases ha:a<n
  .rw[if_pos ha,List.length_cons,Sy h1.2];have ZT:n≠a:=by omega
   by_cases hn:n∈l
   .rw[if_pos hn,if_pos (Qg _ hn)];rfl
   .rw[if_neg hn,if_neg (by simp[ZT,hn])];rfl
  .rw[if_neg ha];by_cases hb:a=n
   .rw[if_pos hb,if_pos (by simp[hb])]
   .rw[if_neg hb,if_neg]
    .rfl
    .intro hm;rcases Qk.1 hm with rfl|hm
     .exact hb U
     .have:=h1.1 n hm;omega
theorem SX:∀ {a b:List Int},kS a->kS b->(∀x,x∈a↔x∈b)->a=b
 | [],[],_,_,_=>rfl
 | [],y::b,_,_,h=>absurd ((h y).2 Qh) List.not_mem_nil
 |x::a,[],_,_,h=>absurd ((h x).1 Qh) List.not_mem_nil
 |x::a,y::b,ha,hb,h=>by
  have h1:=List.pairwise_cons.1 ha;have h2:=List.pairwise_cons.1 hb;have hxy:x=y:=by
   rcases Qk.1 ((h x).1 Qh)with e|e
   .exact e
   .rcases Qk.1 ((h y).2 Qh)with e2|e2
    .exact e2.symm
    .have:=h1.1 y e2;have:=h2.1 x e;omega
  subst hxy;rw[SX h1.2 h2.2 fun z=>?_];constructor
  .intro hz;rcases Qk.1 ((h z).1 (Qg _ hz))with e|e
   .have:=h1.1 z hz;omega
   .exact e
  .intro hz;rcases Qk.1 ((h z).2 (Qg _ hz))with e|e
   .have:=h2.1 z hz;omega
   .exact e
def aL (o n:Int) (i:Nat) (l:List Int) (out:List Int):List Int:=l.foldl (fun out z=>if o=8/\i=1/\z=n then out else cT out z) out
def ai (o n:Int):Nat->List (List Int)->List Int->List Int
 |_,[],out=>out
 |i,l::L,out=>ai o n (i+1) L (aL o n i l out)
mutual
def Cy:Cc->List Int
 | .mk o n ks=>if o=1 then [n]else ai o n 0 (nZ ks) []
def nZ:List Cc->List (List Int)
 | []=>[]
 |t::ts=>Cy t::nZ ts
end
theorem DM:∀ks:List Cc,nZ ks=ks.map Cy
 | []=>rfl
 |t::ts=>by rw[List.map_cons,<-DM ts];rfl
theorem Gm (o n:Int) (i:Nat) (z:Int) (l out:List Int):aL o n i (z::l) out=aL o n i l (if o=8/\i=1/\z=n then out else cT out z):=rfl
theorem Jx {o n x:Int} {i:Nat}:∀ {l out:List Int},x∈aL o n i l out↔x∈out\/(x∈l/\¬(o=8/\i=1/\x=n))
 | [],out=>by simp[aL]
 |z::l,out=>by
  rw[Gm,Jx];by_cases h:o=8/\i=1/\z=n
  .rw[if_pos h];constructor
   .rintro(h1|⟨h1,h2⟩)
    .exact .inl h1
    .exact .inr ⟨Qg _ h1,h2⟩
   .rintro(h1|⟨h1,h2⟩)
    .exact .inl h1
    .rcases Qk.1 h1 with rfl|h1
     .exact absurd h h2
     .exact .inr ⟨h1,h2⟩
  .rw[if_neg h,Np];constructor
   .rintro((rfl|h1)|⟨h1,h2⟩)
    .exact .inr ⟨Qh,h⟩
    .exact .inl h1
    .exact .inr ⟨Qg _ h1,h2⟩
   .rintro(h1|⟨h1,h2⟩)
    .exact .inl (.inr h1)
    .rcases Qk.1 h1 with rfl|h1
     .exact .inl (.inl U)
     .exact .inr ⟨h1,h2⟩
theorem Gl {o n:Int} {i:Nat}:∀ {l out:List Int},kS out->kS (aL o n i l out)
 | [],_,h=>h
 |_::_,_,h=>by
  rw[Gm];refine Gl ?_;split
  .exact h
  .exact JH h
theorem Jw {o n:Int}:∀ {L:List (List Int)} {i:Nat} {out:List Int},kS out->kS (ai o n i L out)
 | [],_,_,h=>h
 |_::L,i,_,h=>Jw (L:=L) (i:=i+1) (Gl h)
theorem LA {o n x:Int}:∀ {L:List (List Int)} {i:Nat} {out:List Int},x∈ai o n i L out↔x∈out\/∃j,∃h:j<L.length,x∈L[j]/\¬(o=8/\i+j=1/\x=n)
 | [],i,out=>⟨.inl,fun h=>h.elim id fun⟨_,h,_⟩=>absurd h (Nat.not_lt_zero _)⟩
 |l::L,i,out=>by
  rw[ai,LA,Jx];constructor
  .rintro((h|⟨h1,h2⟩)|⟨j,hj,h1,h2⟩)
   .exact .inl h
   .exact .inr ⟨0,Nat.zero_lt_succ _,h1,h2⟩
   .exact .inr ⟨j+1,Nat.succ_lt_succ hj,h1,fun⟨a,b,c⟩=>h2 ⟨a,by omega,c⟩⟩
  .rintro(h|⟨j,hj,h1,h2⟩)
   .exact .inl (.inl h)
   .cases j with
    |zero=>exact .inl (.inr ⟨h1,h2⟩)
    |succ j=>exact .inr ⟨j,Nat.lt_of_succ_lt_succ hj,h1,fun⟨a,b,c⟩=>h2 ⟨a,by omega,c⟩⟩
theorem Hk (t:Cc):kS (Cy t):=by
 obtain⟨o,n,ks⟩:=t;unfold Cy;split
 .exact List.pairwise_singleton _ _
 .exact Jw List.Pairwise.nil
theorem MK {o n x:Int} {ks:List Cc} (ho:o≠1):x∈Cy (.mk o n ks)↔∃j,∃h:j<ks.length,x∈Cy ks[j]/\¬(o=8/\j=1/\x=n):=by
 rw[Cy,if_neg ho,LA,DM];constructor
 .rintro(h|⟨j,hj,h1,h2⟩)
  .exact absurd h List.not_mem_nil
  .rw[Qn]at hj;rw[List.getElem_map]at h1;exact⟨j,hj,h1,fun⟨a,b,c⟩=>h2 ⟨a,by omega,c⟩⟩
 .rintro⟨j,hj,h1,h2⟩;exact .inr ⟨j,by rw[Qn];exact hj,by rw[List.getElem_map];exact h1,fun⟨a,b,c⟩=>h2 ⟨a,by omega,c⟩⟩
mutual
def cZ:Cc->List Int
 | .mk o n ks=>(if o=8 then [n]else [])++gJ ks
def gJ:List Cc->List Int
 | []=>[]
 |t::ts=>cZ t++gJ ts
end
mutual
def dB:Cc->List Int->List Int×Bool
 | .mk o n ks,b=>if o=1 then(cT b n, !b.contains n)else eH ks b
def eH:List Cc->List Int->List Int×Bool
 | [],b=>(b,true)
 |t::ts,b=>match dB t b with
  |(c,true)=>eH ts c
  |(c,false)=>(c,false)
end
def fM (t:Cc):Bool:=(dB t []).2&&ao t
def jr (L:List (List Int)):Nat:=(L.map List.length).sum
def aV (l:List Cc):Cc:= .mk 0 0 l
def sU (ps:List Cc):Bool:=decide (jr (ps.map Cy)=(Cy (aV ps)).length)
def gK (t:Cc) (gH:List Int):Bool:=(cZ t).all fun x=>decide ((cZ t).count x<=1)&& !gH.contains x&& !(Cy t).contains x
mutual
def C9:Cc->List Cc
 | .mk o n ks=> .mk o n ks::CP ks
def CP:List Cc->List Cc
 | []=>[]
 |t::ts=>C9 t++CP ts
end
def Z4:List Cc->List Int->Bool
 | [],_=>true
 |x::xs,m=>if x.op≠1/\x.op≠3 then false else if x.op=1 then(if x.n∈m then false else Z4 xs (x.n::m))else Z4 xs m
def gj (v:Int):List Int->List Int->Option (List Int)
 | [],m=>some m
 |z::zs,m=>if z∈m\/¬z<v then none else gj v zs (z::m)
def dC (v:Int) (free:List Int):List Cc->List Int->Bool
 | [],_=>true
 |x::xs,m=>if x.op=1 then(if x.n<v then dC v free xs m else false)else if x.op=8 then(if x.n<v/\x.n∉m/\x.n∉free then dC v free xs (x.n::m)else false)else dC v free xs m
theorem Fl:∀ {L:List Cc} {m m':List Int},(∀x,x∈m↔x∈m')->Z4 L m=Z4 L m'
 | [],_,_,_=>rfl
 |x::xs,m,m',h=>by
  unfold Z4;rw[Fl (L:=xs) h,Fl (L:=xs) (m:=x.n::m) (m':=x.n::m') (fun y=>by simp only[Qk,h y])];simp only[h x.n]
mutual
def mY:Cc->Bool
 | .mk o _ ks=>(!decide (o=1)||ks.isEmpty)&&iX ks
def iX:List Cc->Bool
 | []=>true
 |t::ts=>mY t&&iX ts
end
mutual
theorem LS:∀(t:Cc) (rest:List Cc) (m:List Int),mY t=true->Z4 (C9 t++rest) m=(ao t&&(dB t m).2&&Z4 rest (dB t m).1)
 | .mk o n ks,rest,m,h=>by
  have hl:(o=1->ks=[])/\iX ks=true:=by
   rw[mY,Qf]at h;refine⟨fun ho=>?_,h.2⟩;have:=h.1;rw[decide_eq_true ho]at this;simpa using this
  unfold C9 ao dB;rw[List.cons_append,Z4];show(if o≠1/\o≠3 then false else if o=1 then(if n∈m then false else Z4 _ (n::m))else Z4 _ m)=_;by_cases h1:o=1
  .rw[if_neg (by omega),if_pos h1,if_pos h1,hl.1 h1];subst h1;simp only[eW,decide_true,Bool.true_or,Bool.and_true,Bool.true_and,CP,List.nil_append];by_cases hm:n∈m
   .rw[if_pos hm,List.contains_iff_mem.2 hm];rfl
   .rw[if_neg hm,show m.contains n=false from by simpa using hm];rw[Bool.not_false,Bool.true_and];exact Fl fun x=>by rw[Np,Qk]
  .rw[if_neg h1];by_cases h3:o=3
   .rw[if_neg (by omega),if_neg h1,JJ ks rest m hl.2,decide_eq_true h3,Bool.or_true,Bool.and_true]
   .rw[if_pos ⟨h1,h3⟩,decide_eq_false h1,decide_eq_false h3];simp
theorem JJ:∀(ts rest:List Cc) (m:List Int),iX ts=true->Z4 (CP ts++rest) m=(eW ts&&(eH ts m).2&&Z4 rest (eH ts m).1)
 | [],rest,m,_=>by simp[CP,eW,eH]
 |t::ts,rest,m,h=>by
  rw[iX,Qf]at h;rw[CP,List.append_assoc,LS t _ m h.1,eW,eH];cases e:dB t m with
  |mk c b=>
   cases b with
   |true=>
    simp only[Bool.and_true];rw[JJ ts rest c h.2];simp only[Bool.and_assoc]
   |false=>simp
end
theorem JK {t:Cc} (h:mY t=true):Z4 (C9 t) []=fM t:=by
 have:=LS t [] [] h;rw[List.append_nil]at this;rw[this,fM,Z4,Bool.and_true,Bool.and_comm]
theorem LC {n:Int} {i:Nat} {o:Int} (ho:o≠8) (l out:List Int):aL o n i l out=l.foldl cT out:=by
 unfold aL
 congr 1
 funext a z
 rw[if_neg (by intro h;exact ho h.1)]
theorem N2:∀ {l out:List Int},kS out->l.Nodup->(l.foldl cT out).length<=out.length+l.length/\((l.foldl cT out).length=out.length+l.length↔∀z∈l,z∉out)
 | [],out,_,_=>⟨Qj _,fun _ _ h=>absurd h List.not_mem_nil,fun _=>rfl⟩
 |z::l,out,h,hn=>by
  have h1:=List.nodup_cons.1 hn;obtain⟨h2,h3⟩:=N2 (l:=l) (JH (n:=z) h) h1.2;have hl:=Sy (n:=z) h;rw[List.foldl_cons,List.length_cons];by_cases hz:z∈out
  .rw[if_pos hz]at hl;refine⟨by omega,fun e=>by omega,fun e=>absurd hz (e z Qh)⟩
  .rw[if_neg hz]at hl;refine⟨by omega,fun e x hx=>?_,fun e=>?_⟩
   .rcases Qk.1 hx with rfl|hx
    .exact hz
    .exact fun hm=>h3.1 (by omega) x hx (Np.2 (.inr hm))
   .have:=h3.2 fun x hx hm=>by
     rcases Np.1 hm with rfl|hm
     .exact h1.1 hx
     .exact e x (Qg _ hx) hm
    omega
theorem Is {l:List Int} (h:kS l):l.Nodup:=h.imp fun hab=>by omega
theorem OY {v:Int}:∀ {zs m:List Int},zs.Nodup->(gj v zs m=if(∀z∈zs,z∉m)/\(∀z∈zs,z<v)then some (zs.reverse++m)else none)
 | [],m,_=>by simp[gj]
 |z::zs,m,hn=>by
  have h1:=List.nodup_cons.1 hn;unfold gj;by_cases hz:z∈m\/¬z<v
  .rw[if_pos hz,if_neg];rintro⟨h2,h3⟩;rcases hz with hz|hz
   .exact h2 z Qh hz
   .exact hz (h3 z Qh)
  .rw[if_neg hz,OY h1.2,List.reverse_cons,List.append_assoc];have qN:z∉m:=fun h=>hz (.inl h);have hz2:z<v:=by omega
   have:((∀x∈zs,x∉z::m)/\∀x∈zs,x<v)↔((∀x∈z::zs,x∉m)/\∀x∈z::zs,x<v):=by
    constructor
    .rintro⟨a,b⟩;refine⟨fun x hx=>?_,fun x hx=>?_⟩
     .rcases Qk.1 hx with rfl|hx
      .exact qN
      .exact fun h=>a x hx (Qg _ h)
     .rcases Qk.1 hx with rfl|hx
      .exact hz2
      .exact b x hx
    .rintro⟨a,b⟩;refine⟨fun x hx h=>?_,fun x hx=>b x (Qg _ hx)⟩;rcases Qk.1 h with rfl|h
     .exact h1.1 hx
     .exact a x (Qg _ hx) h
   simp only[this];rfl
def oJ (ok:Cc->Bool) (v:Int):List Cc->List Int->Option (List Int)
 | [],m=>some m
 |p::ps,m=>if ok p then(match gj v (Cy p) m with
  |some m'=>oJ ok v ps m'
  |none=>none)else none
theorem Gp (l:List Int) (L:List (List Int)):jr (l::L)=l.length+jr L:=by simp[jr]
theorem LB:∀ {L:List (List Int)} {i:Nat} {out:List Int},kS out->(∀l∈L,l.Nodup)->(ai 0 0 i L out).length<=out.length+jr L
 | [],_,_,_,_=>Qj _
 |l::L,i,out,h,hn=>by
  rw[ai,Gp];have h1:=LB (L:=L) (i:=i+1) (out:=aL 0 0 i l out) (Gl h) fun x hx=>hn x (Qg _ hx);have h2:=(N2 (l:=l) h (hn l Qh)).1;rw[<-LC (n:=0) (i:=i) (o:=0) (by decide)]at h2;omega
theorem OF {ok:Cc->Bool} {v:Int}:∀ {ps:List Cc} {i:Nat} {m out:List Int},kS out->(∀x,x∈m↔x∈out)->
 (∀r,oJ ok v ps m=some r->(∀p∈ps,ok p=true/\∀z∈Cy p,z<v)/\(ai 0 0 i (ps.map Cy) out).length=out.length+jr (ps.map Cy)/\∀x,x∈r↔x∈ai 0 0 i (ps.map Cy) out)/\
 (oJ ok v ps m=none->¬((∀p∈ps,ok p=true/\∀z∈Cy p,z<v)/\(ai 0 0 i (ps.map Cy) out).length=out.length+jr (ps.map Cy)))
 | [],i,m,out,h,hm=>⟨fun r hr=>by cases hr;exact⟨fun _ h=>absurd h List.not_mem_nil,rfl,hm⟩,fun h=>by cases h⟩
 |p::ps,i,m,out,h,hm=>by
  have hn:=Is (Hk p);have yS:=OY (v:=v) (m:=m) hn;have hu:kS (aL 0 0 i (Cy p) out):=Gl h;obtain⟨hf1,hf2⟩:=N2 (l:=Cy p) h hn;rw[<-LC (n:=0) (i:=i) (o:=0) (by decide)]at hf1 hf2;have hle:=LB (L:=ps.map Cy) (i:=i+1) hu fun x hx=>by
   obtain⟨q,_,rfl⟩:=List.mem_map.1 hx;exact Is (Hk q)
  rw[List.map_cons,ai,Gp];unfold oJ;by_cases ZO:ok p=true
  .rw[if_pos ZO,yS];by_cases hc:(∀z∈Cy p,z∉m)/\(∀z∈Cy p,z<v)
   .rw[if_pos hc];obtain⟨ih1,ih2⟩:=OF (ok:=ok) (v:=v) (ps:=ps) (i:=i+1) (m:=(Cy p).reverse++m) (out:=aL 0 0 i (Cy p) out) hu fun x=>by
     rw[List.mem_append,List.mem_reverse,Jx,hm x];constructor
     .rintro(a|a)
      .exact .inr ⟨a,by rintro⟨e,_⟩;cases e⟩
      .exact .inl a
     .rintro(a|a)
      .exact .inr a
      .exact .inl a.1
    have heq:=hf2.2 fun z hz ho=>hc.1 z hz ((hm z).2 ho);refine⟨fun r hr=>?_,fun hr=>?_⟩
    .obtain⟨a,b,c⟩:=ih1 r hr;refine⟨fun q hq=>?_,by omega,c⟩;rcases Qk.1 hq with rfl|hq
     .exact⟨ZO,hc.2⟩
     .exact a q hq
    .rintro⟨a,b⟩;exact ih2 hr ⟨fun q hq=>a q (Qg _ hq),by omega⟩
   .rw[if_neg hc];refine⟨(fun r hr=>by cases hr),fun _=>?_⟩;rintro⟨a,b⟩;refine hc ⟨fun z hz hzm=>?_,(a p Qh).2⟩;have:(aL 0 0 i (Cy p) out).length=out.length+(Cy p).length:=by omega
    exact hf2.1 this z hz ((hm z).1 hzm)
  .rw[if_neg ZO];exact⟨(fun r hr=>by cases hr),fun _ ⟨a,_⟩=>ZO (a p Qh).1⟩
mutual
theorem Mh:∀t:Cc,cZ t=((C9 t).filter fun x=>x.op=8).map Cc.n
 | .mk o n ks=>by
  rw[cZ,C9,Kj ks];by_cases h:o=8
  .rw[if_pos h,List.filter_cons_of_pos (p:=fun x:Cc=>decide (x.op=8)) (a:= .mk o n ks) (decide_eq_true h)];rfl
  .rw[if_neg h,List.filter_cons_of_neg (p:=fun x:Cc=>decide (x.op=8)) (a:= .mk o n ks) (fun e=>h (dT e))];rfl
theorem Kj:∀ts:List Cc,gJ ts=((CP ts).filter fun x=>x.op=8).map Cc.n
 | []=>rfl
 |t::ts=>by rw[gJ,CP,Mh t,Kj ts,List.filter_append,List.map_append]
end
mutual
theorem Pb {v:Int}:∀t:Cc,cS v t=true↔∀x∈C9 t,x.op=1\/x.op=8->x.n<v
 | .mk o n ks=>by
  rw[cS,C9,Qf,Me ks,List.forall_mem_cons];have:(((!decide (o=1)&& !decide (o=8))||decide (n<v))=true)↔((Cc.mk o n ks).op=1\/(Cc.mk o n ks).op=8->(Cc.mk o n ks).n<v):=by
   show _↔(o=1\/o=8->n<v);by_cases h1:o=1<;>by_cases h2:o=8<;>by_cases h3:n<v<;>simp[h1,h2,h3]
  rw[this];exact And.comm
theorem Me {v:Int}:∀ts:List Cc,qj v ts=true↔∀x∈CP ts,x.op=1\/x.op=8->x.n<v
 | []=>⟨fun _ _ h=>absurd h List.not_mem_nil,fun _=>rfl⟩
 |t::ts=>by rw[qj,CP,Qf,List.forall_mem_append,Pb t,Me ts]
end
theorem Hx {v:Int} {free:List Int}:∀ {L:List Cc} {m:List Int},dC v free L m=true↔(∀x∈L,x.op=1\/x.op=8->x.n<v)/\((L.filter fun x=>x.op=8).map Cc.n).Nodup/\∀z∈(L.filter fun x=>x.op=8).map Cc.n,z∉m/\z∉free
 | [],m=>⟨fun _=>⟨fun _ h=>absurd h List.not_mem_nil,List.nodup_nil,fun _ h=>absurd h List.not_mem_nil⟩,fun _=>rfl⟩
 |x::xs,m=>by
  unfold dC;rw[List.forall_mem_cons];by_cases h1:x.op=1
  .rw[if_pos h1,List.filter_cons_of_neg (by simp[h1])];by_cases hv:x.n<v
   .rw[if_pos hv,Hx (L:=xs)];exact⟨fun⟨a,b⟩=>⟨⟨fun _=>hv,a⟩,b⟩,fun⟨⟨_,a⟩,b⟩=>⟨a,b⟩⟩
   .rw[if_neg hv];exact⟨(fun h=>by cases h),fun⟨⟨a,_⟩,_⟩=>absurd (a (.inl h1)) hv⟩
  .rw[if_neg h1];by_cases h8:x.op=8
   .rw[if_pos h8,List.filter_cons_of_pos (by simpa using h8),List.map_cons,List.nodup_cons,List.forall_mem_cons];by_cases hc:x.n<v/\x.n∉m/\x.n∉free
    .rw[if_pos hc,Hx (L:=xs)];constructor
     .rintro⟨a,b,c⟩;refine⟨⟨fun _=>hc.1,a⟩,⟨fun hm=>(c _ hm).1 Qh,b⟩,hc.2,fun z hz=>⟨fun h=>(c z hz).1 (Qg _ h),(c z hz).2⟩⟩
     .rintro⟨⟨_,a⟩,⟨b1,b2⟩,_,c⟩;refine⟨a,b2,fun z hz=>⟨fun h=>?_,(c z hz).2⟩⟩;rcases Qk.1 h with rfl|h
      .exact b1 hz
      .exact(c z hz).1 h
    .rw[if_neg hc];exact⟨(fun h=>by cases h),fun⟨⟨a,_⟩,_,b,_⟩=>absurd ⟨a (.inr h8),b⟩ hc⟩
   .rw[if_neg h8,List.filter_cons_of_neg (by simpa using h8),Hx (L:=xs)];exact⟨fun⟨a,b⟩=>⟨⟨fun h=>by omega,a⟩,b⟩,fun⟨⟨_,a⟩,b⟩=>⟨a,b⟩⟩
theorem QV {v:Int} {t:Cc} {m gH:List Int} (hm:∀x,x∈m↔x∈gH):dC v (Cy t) (C9 t) m=(cS v t&&gK t gH):=by
 have h1:=Hx (v:=v) (free:=Cy t) (L:=C9 t) (m:=m);rw[<-Mh,<-Pb]at h1;have h2:gK t gH=true↔(cZ t).Nodup/\∀z∈cZ t,z∉m/\z∉Cy t:=by
  unfold gK;rw[List.all_eq_true,List.nodup_iff_count];simp only[Qf,decide_eq_true_eq,Bool.not_eq_true',List.contains_eq_mem,decide_eq_false_iff_not];constructor
  .intro h;refine⟨fun a=>?_,fun z hz=>⟨fun hz'=>(h z hz).1.2 ((hm z).1 hz'),(h z hz).2⟩⟩;by_cases ha:a∈cZ t
   .exact(h a ha).1.1
   .rw[List.count_eq_zero_of_not_mem ha];omega
  .rintro⟨a,b⟩ z hz;exact⟨⟨a z,fun h=>(b z hz).1 ((hm z).2 h)⟩,(b z hz).2⟩
 rw[Bool.eq_iff_iff,h1,Qf,h2]
mutual
theorem Nr {v:Int}:∀ {t:Cc},mY t=true->ao t=true->(cS v t=true↔∀z∈Cy t,z<v)
 | .mk o n ks,hl,hs=>by
  rw[mY,Qf]at hl;rw[ao,Qf]at hs;rw[cS,Qf,Pa hl.2 hs.1];by_cases h1:o=1
  .have hk:ks=[]:=by
    have:=hl.1;rw[decide_eq_true h1]at this;simpa using this
   subst hk h1;rw[Cy,if_pos rfl];constructor
   .rintro⟨_,h⟩ z hz;rw[Qp.1 hz];simpa using h
   .intro h;exact⟨fun _ hx=>absurd hx List.not_mem_nil,by simpa using h n (Qp.2 U)⟩
  .have h3:o=3:=by simpa[h1]using hs.2
   subst h3;constructor
   .rintro⟨h,_⟩ z hz;obtain⟨j,hj,hz,_⟩:=(MK h1).1 hz;exact h _ (Ql hj) z hz
   .intro h;refine⟨fun x hx z hz=>?_,by simp⟩;obtain⟨j,hj,rfl⟩:=List.mem_iff_getElem.1 hx;exact h z ((MK h1).2 ⟨j,hj,hz,by rintro⟨e,_⟩;cases e⟩)
theorem Pa {v:Int}:∀ {ts:List Cc},iX ts=true->eW ts=true->(qj v ts=true↔∀x∈ts,∀z∈Cy x,z<v)
 | [],_,_=>⟨fun _ _ h=>absurd h List.not_mem_nil,fun _=>rfl⟩
 |t::ts,hl,hs=>by
  rw[iX,Qf]at hl;rw[eW,Qf]at hs;rw[qj,Qf,Nr hl.1 hs.1,Pa hl.2 hs.2,List.forall_mem_cons]
end
def qn (T0:Cc->Bool) (v:Int) (ps:List Cc) (rhs:Cc):Bool:=ps.all (fun p=>T0 p&&fM p&&cS v p)&&sU ps&&cS v rhs&&gK rhs (Cy (aV ps))
def partsP (T0:Cc->Bool) (v:Int) (ps:List Cc) (rhs:Cc):Bool:=match oJ (fun p=>T0 p&&Z4 (C9 p) []) v ps []with
 |some m=>dC v (Cy rhs) (C9 rhs) m
 |none=>false
theorem parts_eq {T0:Cc->Bool} (h0:∀t,T0 t=true->mY t=true) (v:Int) (ps:List Cc) (rhs:Cc):partsP T0 v ps rhs=qn T0 v ps rhs:=by
 have ZI:(ps.all (fun p=>T0 p&&fM p&&cS v p)=true)↔∀p∈ps,(T0 p&&Z4 (C9 p) [])=true/\∀z∈Cy p,z<v:=by
  rw[List.all_eq_true];have key:∀p,((T0 p&&fM p&&cS v p)=true↔(T0 p&&Z4 (C9 p) [])=true/\∀z∈Cy p,z<v):=by
   intro p;cases ht:T0 p with
   |false=>simp
   |true=>
    have hl:=h0 p ht;rw[JK hl,Bool.true_and,Qf];constructor
    .rintro⟨a,b⟩;have hs:ao p=true:=by unfold fM at a;exact(Qf _ _▸a).2
     exact⟨a,(Nr hl hs).1 b⟩
    .rintro⟨a,b⟩;have hs:ao p=true:=by unfold fM at a;exact(Qf _ _▸a).2
     exact⟨a,(Nr hl hs).2 b⟩
  exact⟨fun h p hp=>(key p).1 (h p hp),fun h p hp=>(key p).2 (h p hp)⟩
 have hlin:sU ps=true↔(ai 0 0 0 (ps.map Cy) []).length=([]:List Int).length+jr (ps.map Cy):=by
  unfold sU aV;rw[decide_eq_true_iff,Cy,if_neg (by decide),DM,List.length_nil,Nat.zero_add];exact eq_comm
 obtain⟨h1,h2⟩:=OF (ok:=fun p=>T0 p&&Z4 (C9 p) []) (v:=v) (ps:=ps) (i:=0) (m:=[]) (out:=[]) List.Pairwise.nil fun _=>Iff.rfl;unfold partsP qn;cases hp:oJ (fun p=>T0 p&&Z4 (C9 p) []) v ps []with
 |none=>
  have:=h2 hp;rw[<-ZI,<-hlin]at this;cases ha:ps.all (fun p=>T0 p&&fM p&&cS v p)with
  |false=>rfl
  |true=>
   cases hb:sU ps with
   |false=>simp
   |true=>exact absurd ⟨ha,hb⟩ this
 |some m=>
  obtain⟨a,b,c⟩:=h1 m hp;rw[<-ZI]at a;rw[<-hlin]at b;rw[a,b];simp only[Bool.true_and];refine QV fun x=>?_;unfold aV;rw[c x,Cy,if_neg (by decide),DM]
end Go.Proofs.YtfhimfcbphepeaaGreatDoor.Ty
open Go Am
namespace Am
section
variable {E : a_} {l : Sl} {o : Oper}
theorem MD {t e:TypeId} {x:Operand} {lo hi:Option Operand} {sz:Nat} {zY zZ:Option AV} {a p:AV} (ho:o.op= .slice t x lo hi none) (hu:CS E t=some (.slice e)) (hs:an E e=some sz)
 (hx:Cg x l=some a) (pq:iU lo l=some zY) (tg:iU hi l=some zZ) (hb:dk (some a)=none) (hv:∀s,YX s sz zY zZ none a=some p):Zm E o l p:=
 NS (x:=Ch E x) (f:=fun T s=>(Ch E x T).bind fun a=>(Zg E lo T).bind fun l=>(Zg E hi T).bind fun h=>(Zg E none T).bind fun m=>YX s sz l h m a) (by
  rw[ho];show fk E t x lo hi none=_;unfold fk;rw[hu];simp only[hs]) (fun T hT=>by rw[Ae hT hx,hb]) fun T s hT=>by
   simp only[Ae hT hx,DA hT pq,DA hT tg,Qe];exact hv s
end
end Am
namespace Go.Proofs.YtfhimfcbphepeaaGreatDoor.Ty
def partZ (l r:List Int):AV:=match l with
 | []=> .Ca
 |_::_=>Cp ZS 1 r
theorem DD (l:List Int):(l.flatMap ZS).length=l.length:=by
 induction l with
 |nil=>rfl
 |cons a l ih=>rw[List.flatMap_cons,Qm,ih,List.length_cons];show 1+_=_;omega
theorem UA (l:List Int) (k:Nat):(l.take k).flatMap ZS=(l.flatMap ZS).take k:=by
 induction l generalizing k with
 |nil=>simp
 |cons a l ih=>
  cases k with
  |zero=>rfl
  |succ k=>rw[List.take_succ_cons,List.flatMap_cons,ih,List.flatMap_cons];rfl
theorem UB (l:List Int) (k:Nat):(l.drop k).flatMap ZS=(l.flatMap ZS).drop k:=by
 induction l generalizing k with
 |nil=>simp
 |cons a l ih=>
  cases k with
  |zero=>rfl
  |succ k=>rw[List.drop_succ_cons,ih,List.flatMap_cons];rfl
theorem recsZ (r:List Int):Cp ZS 1 r= .Ck (r.flatMap ZS) r.length 1 true:=rfl
theorem partZ_to {l:List Int} {k:Nat} (h:k<=l.length) (s:St):YX s 1 none (some (.int .i64 (k:Nat))) none (az l)=some (partZ l (l.take k)):=by
 cases l with
 |nil=>
  obtain rfl:k=0:=by simpa using h
  rfl
 |cons a r=>
  show dZ 1 none (some (.int .i64 (k:Nat))) ((a::r).flatMap ZS) (a::r).length true (a::r).length=some (Cp ZS 1 ((a::r).take k));unfold dZ;rw[show YB (a::r).length (a::r).length (some (.int .i64 (k:Nat)))=some k from Eg h,Qe,show YB 0 k none=some 0 from rfl,Qe,
   show y_ ((a::r).flatMap ZS) (0*1) ((k-0)*1)=some (((a::r).flatMap ZS).take k)from ?_,Qe,recsZ,UA,List.length_take,Nat.min_eq_left h]
  .rfl
  .rw[FX (by rw[DD];omega)];simp
theorem Ui {l:List Int} {k:Nat} (h:k<=l.length) (s:St):YX s 1 (some (.int .i64 (k:Nat))) none none (az l)=some (partZ l (l.drop k)):=by
 cases l with
 |nil=>
  obtain rfl:k=0:=by simpa using h
  rfl
 |cons a r=>
  show dZ 1 (some (.int .i64 (k:Nat))) none ((a::r).flatMap ZS) (a::r).length true (a::r).length=some (Cp ZS 1 ((a::r).drop k));unfold dZ;rw[show YB (a::r).length (a::r).length none=some (a::r).length from rfl,Qe,show YB 0 (a::r).length (some (.int .i64 (k:Nat)))=some k from Eg h,Qe,
   FX (by rw[DD];omega),Qe,recsZ,UB,List.length_drop,Nat.mul_one,Nat.mul_one,List.take_of_length_le (by rw[List.length_drop,DD];exact Qj _)]
theorem GS {l r:List Int} (h:l=[]->r=[]) (s:St):YQ s 1 (partZ l r)=some (r.flatMap ZS,r.length):=by
 cases l with
 |nil=>rw[h rfl];rfl
 |cons a l=>
  show(bif Nat.beq 1 1 then(o_ (r.length*1) (r.flatMap ZS)).bind fun l=>some (l,r.length)else none)=_;rw[show r.length*1=(r.flatMap ZS).length from by rw[DD,Nat.mul_one],EF];rfl
theorem PV (l:List Int):dk (some (az l))=none:=by cases l<;>rfl
theorem VT {n:Int}:∀ {l:List Int} {k:Nat},k<=l.length->(∀j (hj:j<l.length),j<k->l[j]<n)->(∀hk:k<l.length,¬l[k]<n)->
 cT l n=if∃hk:k<l.length,l[k]=n then l else l.take k++n::l.drop k
 | [],k,h,_,_=>by
  obtain rfl:k=0:=by simpa using h
  rfl
 |a::l,0,_,_,h2=>by
  have h3:¬a<n:=h2 (Nat.zero_lt_succ _);unfold cT;rw[if_neg h3];by_cases e:a=n
  .rw[if_pos e,if_pos ⟨Nat.zero_lt_succ _,e⟩]
  .rw[if_neg e,if_neg (fun⟨_,h⟩=>e h)];rfl
 |a::l,k+1,h,h1,h2=>by
  unfold cT;rw[if_pos (show a<n from h1 0 (Nat.zero_lt_succ _) (Nat.zero_lt_succ _)),VT (l:=l) (k:=k) (Nat.le_of_succ_le_succ h) (fun j hj hk=>h1 (j+1) (Nat.succ_lt_succ hj) (Nat.succ_lt_succ hk)) fun hk=>h2 (Nat.succ_lt_succ hk)];by_cases e:∃hk:k<l.length,l[k]=n
  .rw[if_pos e,if_pos];obtain⟨hk,e⟩:=e;exact⟨Nat.succ_lt_succ hk,e⟩
  .rw[if_neg e,if_neg]
   .rfl
   .rintro⟨hk,h⟩;exact e ⟨Nat.lt_of_succ_lt_succ hk,h⟩
theorem VZ (l:List Int):(l.flatMap ZS).all jJ=true:=by
 induction l with
 |nil=>rfl
 |cons a l ih=>rw[List.flatMap_cons,List.all_append,ih];rfl
theorem R9 (l:List Int):(l.flatMap ZS).all (Cm 40)=true:=by
 induction l with
 |nil=>rfl
 |cons a l ih=>rw[List.flatMap_cons,List.all_append,ih];rfl
theorem xw {l:List Int} {n:Nat} (hn:n=l.length):jK (l.flatMap ZS) n 1=az l:=by
 subst hn;cases l with
 |nil=>rfl
 |cons a l=>rfl
theorem Vi (l:List Int) (s:St) (m:Nat):CW s m 40 (az l) []=some (az l,[]):=by cases l<;>rfl
theorem Jq (l:List Int) (m:Nat):Cw m 40 (az l)=true:=by cases l<;>rfl
theorem rput_to (l:List Int) (n:Int) (hl:l.length<=4000):Cj (EK KP22) 250 [az l,.int .i64 n] S0 (az (cT l n)):=by
 refine As U ?_;have hlen:=Fc l;iterate 2 refine Ew U ?_
 refine BT (D6 (fun i:Nat=>([(5,.int .i64 (i:Nat)),(4,.Ca),(0,az l),(1,.int .i64 n)],Y9 0 0 [] [])) (fun i=>i<=l.length/\(∀j (hj:j<l.length),j<i->l[j]<n)/\∀hk:i<l.length,¬l[i]<n) ?_ ?_)
 .refine Sb<|Ai (fun i:Nat=>([(5,.int .i64 (i:Nat)),(4,.Ca),(0,az l),(1,.int .i64 n)],Y9 0 0 [] [])) (fun i=>l.length-i) (fun i=>i<=l.length/\∀j (hj:j<l.length),j<i->l[j]<n) 0 ⟨Qo _,fun _ _ h=>absurd h (Nat.not_lt_zero _)⟩ U (Ac (by trivial)) ?_;rintro k ⟨hk,ha⟩;dsimp only at hk ha|-;by_cases h:k<l.length
  .have YK:=FA h;focus
    refine Sq<|Es<|Lv 2 U<|Lq (kn U hlen) U<|Lv 2 U<|Bd U (fun h1=>?_) (fun h1=>?_);refine Lv 2 U<|Lh U U (kv U YK)<|Lw U<|Cd U (fun h2=>?_) (fun h2=>?_);refine Sk<|Sb<|Sr<|qm U<|Lq (ka (b:=1) U (by omega)) U<|Lw U ?_;rotate_left;refine Sx<|Ax U ?_;rotate_left;omega
   .exact⟨k+1,⟨h,BR (P:=fun z=>z<n) (h:=h) ha h2⟩,by show l.length-(k+1)<l.length-k;omega,rfl,rfl,Ac (by trivial)⟩
   .exact⟨rfl,k,⟨hk,ha,fun _=>by assumption⟩,rfl,Ac (by trivial)⟩
  .focus
    refine Sq<|Es<|Lv 2 U<|Lq (kn U hlen) U<|Lv 2 U<|Bd U (fun h1=>?_) (fun h1=>?_);omega;refine Lw U<|Tf U<|Sx<|Ax U ?_;rotate_left
   exact⟨rfl,k,⟨hk,ha,fun hh=>absurd hh h⟩,rfl,Ac (by trivial)⟩
 .rintro k ⟨hk,ha,hna⟩;dsimp only;have eE:=VT hk ha hna;refine Sq<|BT (D6 (fun b:Bool=>([(31,.bool b),(5,.int .i64 (k:Nat)),(4,.Ca),(0,az l),(1,.int .i64 n)],Y9 0 0 [] [])) (fun b=>b=true↔∃hk:k<l.length,l[k]=n) ?_ ?_)
  .by_cases h:k<l.length
   .have YK:=FA h;focus
     refine Sr<|Lv 2 U<|Lq (kn U hlen) U<|Lv 2 U<|Bd U (fun h1=>?_) (fun h1=>?_);refine Lv 2 U<|Lh U U (kv U YK)<|Lw U ?_;rotate_left;omega
    exact⟨rfl,decide (l[k]=n),by rw[decide_eq_true_iff];exact⟨fun e=>⟨h,e⟩,fun⟨_,e⟩=>e⟩,rfl,Ac (by trivial)⟩
   .focus
     refine Sr<|Lv 2 U<|Lq (kn U hlen) U<|Lv 2 U<|Bd U (fun h1=>?_) (fun h1=>?_);omega;refine Lw U ?_;rotate_left
    exact⟨rfl,false,⟨(fun h=>by cases h),fun⟨h',_⟩=>absurd h' h⟩,rfl,Ac (by trivial)⟩
  .rintro b hb;dsimp only;have wL:=partZ_to hk;have hsr:=Ui hk;have se:l=[]->l.take k=[]:=by rintro rfl;simp
   have gM:l=[]->l.drop k=[]:=by rintro rfl;simp
   focus
    refine Cb U (fun g1=>?_) (fun g1=>?_);refine Ew U ?_;rotate_left;refine Sk<|Af U<|Nv 2 U ?_;rotate_left
   .refine Se ⟨.inl U,U,U,U,_,_,[],Aa U U,Vi l _ _,Jq l _,?_⟩;rw[eE,if_pos (hb.1 g1)]
   .rw[if_neg (fun e=>by have:=hb.2 e;simp_all)]at eE;rw[eE];refine CF.q (MD U Vf Eo U U U (PV l) wL) U U U<|Gd (m:=k) (new:=(l.take k).flatMap ZS) (c_.nil (Y9 0 0 [] []) 3 1) U (by rw[DD,List.length_take];omega) (by decide) (AP (by omega) (by decide)) U U U U Vf Eo xd z_3 U U U U (by rw[GS se,List.length_take,Nat.min_eq_left hk]) U U (.inl U) U U ?_;intro v1 S1 n1 gr1 ow1 nx1 bd1 lg1 hh1 nw1;refine Nv 1 U<|B4 U Vf Eo z_3 U U U (.inl U) U U ?_;have grA:c_ (S1.A (.J [.int .i64 n] 3 false)) 3 1 v1 ((l.take k).flatMap ZS) k:=by
     rw[List.nil_append,Nat.zero_add]at gr1;exact gr1.aI (Nat.le_succ _) fun c hc=>Au (gr1.own hc)
    refine Gd (m:=1) (new:=[.int .i64 n]) grA bd1 U (by decide) (AP (by omega) (by decide)) U U U U Vf Eo xd z_3 U U U U (Gb (e:=3) (part:=false) A1 U) U (by rw[List.all_cons,nw1.all U U];kernel_rfl) (.inl U) U U ?_;intro v2 S2 n2 gr2 ow2 nx2 bd2 lg2 hh2 nw2;refine Nv 2 U<|CF.q (MD U Vf Eo U U U (PV l) hsr) U U U<|Gd (m:=l.length-k) (new:=(l.drop k).flatMap ZS) gr2 bd2 (by rw[DD,List.length_drop];omega) (by decide) (AP (by omega) (by decide)) U U U U Vf Eo xd z_3 U U U U (by rw[GS gM,List.length_drop]) U (nw2.all (by rw[List.all_cons,nw1.all U U];kernel_rfl) U) (.inl U) U U ?_;intro v4 S4 n4 gr4 ow4 nx4 bd4 lg4 hh4 nw4;refine Nw U ?_;have YO:(l.take k).flatMap ZS++[.int .i64 n]++(l.drop k).flatMap ZS=(l.take k++n::l.drop k).flatMap ZS:=by
     rw[List.flatMap_append,List.flatMap_cons,List.append_assoc];rfl
    rw[YO]at gr4;have hl4:k+1+(l.length-k)=(l.take k++n::l.drop k).length:=by rw[Qm,List.length_cons,List.length_take,List.length_drop];omega
    obtain⟨ks,hf⟩:=gr4.ma (VZ _) (R9 _) 38;refine Se ⟨.inl U,U,lg4.trans (lg2.trans lg1),bd4,_,_,ks,Aa U U,hf,?_,xw hl4⟩;rw[xw hl4];cases (l.take k++n::l.drop k)<;>rfl
noncomputable def KP23:=CX KP22 250 fG (fun p=>az (cT p.1.1 p.1.2))
theorem hq_250 {l:List Int} {n:Int} (h:l.length<=4000):KP23 250 [az l,.int .i64 n]=some (az (cT l n)):=Aj (enc:=fG) (fun a b h=>by rw[FW a b h]) ⟨(l,n),h⟩
theorem pall23 (h:CM Tryz.prog 8 [] (.bool true)):Co Tryz.prog gn KP23:=
 Al Aw Ag (pall22 h) (fun p:ZnT=>rput_to p.1.1 p.1.2 p.2) FB (fun _=>DL _)
theorem MY (n:Int):∀l:List Int,(cT l n).length<=l.length+1
 | []=>Qj _
 |a::l=>by
  unfold cT;split
  .rw[List.length_cons,List.length_cons];exact Nat.succ_le_succ (MY n l)
  .split
   .exact Nat.le_succ _
   .exact Qj _
theorem RY {o n:Int} {i:Nat}:∀ {l out:List Int},(aL o n i l out).length<=out.length+l.length
 | [],_=>Qj _
 |z::l,out=>by
  rw[Gm];have h1:=RY (o:=o) (n:=n) (i:=i) (l:=l) (out:=if o=8/\i=1/\z=n then out else cT out z);have h2:(if o=8/\i=1/\z=n then out else cT out z).length<=out.length+1:=by
   split
   .exact Nat.le_succ _
   .exact MY _ _
  rw[List.length_cons];omega
theorem Ob {o n:Int}:∀ {L:List (List Int)} {i:Nat} {out:List Int},(ai o n i L out).length<=out.length+jr L
 | [],_,_=>Qj _
 |l::L,i,out=>by
  rw[ai,Gp];have h1:=Ob (o:=o) (n:=n) (L:=L) (i:=i+1) (out:=aL o n i l out);have h2:=RY (o:=o) (n:=n) (i:=i) (l:=l) (out:=out);omega
mutual
theorem Fe:∀t:Cc,(Cy t).length<=Ct t
 | .mk o n ks=>by
  rw[Cy,Ct];split
  .exact Nat.le_add_left 1 _
  .have h1:=Ob (o:=o) (n:=n) (L:=nZ ks) (i:=0) (out:=[]);have h2:=MJ ks;rw[List.length_nil]at h1;omega
theorem MJ:∀ts:List Cc,jr (nZ ts)<=C5 ts
 | []=>Qj _
 |t::ts=>by
  have h1:=Fe t;have h2:=MJ ts;rw[nZ,Gp,C5];omega
end
abbrev SzT:= {t:Cc//Ct t<=1000}
def mZ (t:SzT):List AV:=[.agg (Cf t.1)]
theorem EU (a b:SzT) (h:mZ a=mZ b):a=b:=Subtype.ext (AO _ _ (AV.agg.inj (List.cons.inj h).1))
theorem Og (t:SzT):(mZ t).all (Cm 40)=true:=Ho t.1
noncomputable abbrev KV (d:Nat):=A' KP23 197 mZ (fun t=>az (Cy t.1)) (fun t=>CL t.1) d
theorem hitV_put {d:Nat} {l:List Int} {n:Int} (h:l.length<=4000):KV d 250 [az l,.int .i64 n]=some (az (cT l n)):=hq_250 h
theorem rvars_to (d:Nat) (t:Cc) (h:CL t=d+1) (hs:Ct t<=1000) (hx:KV d 197 [.agg (Cf t)]=none):Cj (EK (KV d)) 197 [.agg (Cf t)] S0 (az (Cy t)):=by
 rw[Ak]at hx|-;refine Bt (fn:=Tryz.f197) U hx U U U U U ?_;obtain⟨o,n,ks⟩:=t;have hlen:=BC (l:=ks);have lh:Yl ks<=d:=by have:Yl ks+1=d+1:=h;omega
 have hnk:C5 ks+1<=1000:=hs;have uz:=Bo ks;focus
  refine Eh U<|Sq<|Eh U<|Cd U (fun h1=>?_) (fun h1=>?_);refine Es<|Ls 2 U<|Lo (AL 2 U Vf Eo z_3 U U U U) U<|Lw U<|Se (Er U ?_);rotate_left;refine Sk<|Ew U<|Sq<|Ew U<|Sb ?_;rotate_left
 .rw[Cy,if_pos (show o=1 from h1)];rfl
 have hv:Cy (.mk o n ks)=ai o n 0 (ks.map Cy) []:=by rw[Cy,if_neg ‹_›,DM]
 refine Ai (fun x:Nat×List Int=>([(4,.int .i64 (x.1:Nat)),(3,az x.2),(1,.Z 0 0)],Y9 1 0 [] [(0,some (.J [.int .i64 o,.int .i64 n,Cs ks] 47 false))])) (fun x=>ks.length-x.1)
  (fun x=>x.1<=ks.length/\Cy (.mk o n ks)=ai o n x.1 ((ks.drop x.1).map Cy) x.2/\x.2.length+C5 (ks.drop x.1)<=1000) (0,[]) ⟨Qo _,hv,by show 0+C5 ks<=1000;omega⟩ rfl (Ac (by trivial)) ?_
 rintro⟨i,out⟩ ⟨hi,hu,hb⟩;dsimp only at hi hu hb|-;by_cases h:i<ks.length
 .have YK:=BD h;have ot:Ct ks[i]<=1000:=Nat.le_trans (BH (Ql h)) (by omega);rw[List.drop_eq_getElem_cons h,C5]at hb;rw[List.drop_eq_getElem_cons h,List.map_cons,ai]at hu;have uT:=Fe ks[i];have cJ:KV d 197 [.agg (Cf ks[i])]=some (az (Cy ks[i])):=DE EU ⟨ks[i],ot⟩ (Nat.le_trans (Bg (Ql h)) lh);rw[Ak]at cJ YK;focus
   refine Sq<|Eh U<|Cd U (fun h2=>?_) (fun h2=>?_);refine Sk<|Sq<|Sb<|Es<|Ls 3 U<|Lq (kv U YK) U<|Lv 1 U<|Lo (kc U (cJ)) U<|Lw U<|Ew U<|Sb ?_;rotate_left;omega
  generalize Cy ks[i]=l at*;refine Ai (fun x:Nat×List Int=>([(6,.int .i64 (x.1:Nat)),(5,az l),(4,.int .i64 (i:Nat)),(3,az x.2),(1,.Z 0 0)],Y9 1 0 [] [(0,some (.J [.int .i64 o,.int .i64 n,Cs ks] 47 false))])) (fun x=>l.length-x.1)
   (fun x=>x.1<=l.length/\aL o n i l out=aL o n i (l.drop x.1) x.2/\x.2.length+(l.length-x.1)+C5 (ks.drop (i+1))<=1000) (0,out) ⟨Qo _,rfl,by dsimp only;omega⟩ rfl (Ac (by trivial)) ?_
  rintro⟨k,ou⟩ ⟨hk,hw,hc⟩;dsimp only at hk hw hc|-;have hlen2:=Fc l;by_cases h':k<l.length
  .have hid2:=FA h';have na:=hitV_put (d:=d) (l:=ou) (n:=l[k]) (by omega);have ZV:=MY l[k] ou;rw[List.drop_eq_getElem_cons h',Gm]at hw;have put:¬(o=8/\i=1/\l[k]=n)->aL o n i l out=aL o n i (l.drop (k+1)) (cT ou l[k]):=fun hc=>by rw[hw,if_neg hc]
   have skip:(o=8/\i=1/\l[k]=n)->aL o n i l out=aL o n i (l.drop (k+1)) ou:=fun hc=>by rw[hw,if_pos hc]
   focus
    refine Sq<|Es<|Lv 2 U<|Lq (kn U hlen2) U<|Lw U<|Cd U (fun h3=>?_) (fun h3=>?_);refine Sk<|Sq<|Sb<|Af U<|Nv 1 U<|Ad U wc wb U U U U (.inl U) U U<|Nv 2 U<|Db U (fun g4=>?_) (fun g4=>?_);have h4:=nT g4;refine Nw U<|Tt U<|Sr<|Lv 3 U<|Lq (kv U hid2) U<|Lv 1 U<|Lo (kc U (na)) U<|Lw U<|Sr<|qm U<|Lq (ka (b:=1) U (by omega)) U<|Lw U ?_;rotate_left;have h4:=nF g4;refine Nv 4 U<|Db U (fun g5=>?_) (fun g5=>?_);have h5:=nT g5;refine Nw U<|Tt U<|Sr<|Lv 3 U<|Lq (kv U hid2) U<|Lv 1 U<|Lo (kc U (na)) U<|Lw U<|Sr<|qm U<|Lq (ka (b:=1) U (by omega)) U<|Lw U ?_;rotate_left;have h5:=nF g5;refine Nv 2 U<|Nz (kv U hid2) U U<|Nv 2 U<|Ad U GM Eo U U U U (gG U) U U<|Nw U<|Ce U (fun h6=>?_) (fun h6=>?_);refine Sr<|Lv 3 U<|Lq (kv U hid2) U<|Lv 1 U<|Lo (kc U (na)) U<|Lw U<|Sr<|qm U<|Lq (ka (b:=1) U (by omega)) U<|Lw U ?_;rotate_left;refine Sk<|Sr<|qm U<|Lq (ka (b:=1) U (by omega)) U<|Lw U ?_;rotate_left;omega
   all_goals first
    |exact⟨(k+1,cT ou l[k]),⟨h',put (by omega),by dsimp only;omega⟩,by show l.length-(k+1)<l.length-k;omega,rfl,rfl,Ac (by trivial)⟩
    |exact⟨(k+1,ou),⟨h',skip (by omega),by dsimp only;omega⟩,by show l.length-(k+1)<l.length-k;omega,rfl,rfl,Ac (by trivial)⟩
  .obtain rfl:k=l.length:=by omega
   rw[List.drop_length]at hw;focus
    refine Sq<|Es<|Lv 2 U<|Lq (kn U hlen2) U<|Lw U<|Cd U (fun h3=>?_) (fun h3=>?_);omega;refine Sx<|Ax U<|Sr<|qm U<|Lq (ka (b:=1) U (by omega)) U<|Lw U ?_;rotate_left
   exact⟨(i+1,ou),⟨h,by rw[hu,hw];rfl,by dsimp only;omega⟩,by show ks.length-(i+1)<ks.length-i;omega,U,U,Ac (by trivial)⟩
 .obtain rfl:i=ks.length:=by omega
  rw[List.drop_length]at hu;focus
   refine Sq<|Eh U<|Cd U (fun h2=>?_) (fun h2=>?_);omega;refine Sx<|Ax U<|Ew U ?_;rotate_left
  refine Se ⟨.inl U,U,U,U,_,_,[],Aa U U,Vi out _ _,Jq out _,?_⟩;rw[hu];rfl
noncomputable def KP24:=CX KP23 197 mZ (fun t=>az (Cy t.1))
theorem SY {t:Cc} (h:Ct t<=1000):KP24 197 [.agg (Cf t)]=some (az (Cy t)):=Aj (enc:=mZ) (fun a b h=>by rw[EU a b h]) ⟨t,h⟩
theorem pall24 (h:CM Tryz.prog 8 [] (.bool true)):Co Tryz.prog gn KP24:=
 Lt (deep:=fun p:SzT=>CL p.1) Aw Ag (pall23 h) EU (fun p=>Dt p.1) Og (fun _=>DL _) fun d p hp hx=>rvars_to d p.1 hp p.2 hx
end Go.Proofs.YtfhimfcbphepeaaGreatDoor.Ty
