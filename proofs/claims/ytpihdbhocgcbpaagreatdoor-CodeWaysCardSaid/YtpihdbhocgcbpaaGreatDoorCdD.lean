/- Code: what comes before; what follows. -/
import Derived.Test.YtpihdbhocgcbpaaGreatDoorCdA
import Derived.Test.YtpihdbhocgcbpaaGreatDoorCdB
set_option linter.unusedSectionVars false
set_option linter.unusedVariables false
set_option linter.unusedSimpArgs false
open Go Am
namespace Go.Proofs.YtpihdbhocgcbpaaGreatDoor
structure ZT (c:Cj):Prop where
 a:r_ c
 b:X5 c=true
variable {R:AV->St->Prop} {fr:Fr} {r:Int} {S a l:List Int} {todo:List WL} {d f i m:Nat} {st:St} {p:WL}
theorem ZT.A {c:Cj} (h:ZT c):aD c=true:=by
 have:=h.b;unfold X5 at this;simp only[Qf]at this;exact this.1
theorem ZT.g {c:Cj} (h:ZT c) {k:Nat} (hk:k<c.a.length):YO c k c.a[k]=true:=by
 have:=h.b;unfold X5 at this;simp only[Qf]at this;have:=GJ this.2.2 hk;unfold ko at this;rwa[B2 hk]at this
theorem ZT.u {c:Cj} (h:ZT c) {k:Nat} (hk:k<c.d.length):0<=c.d[k]/\c.d[k]<c.a.length:=by
 have:=h.b;unfold X5 at this;simp only[Qf]at this;have:=GJ this.2.1 hk;unfold c8 at this;rw[Ao hk,VW]at this;omega
theorem ZT.G {c:Cj} (h:ZT c):Zy c.b c.c=true:=by
 have:=h.A;unfold aD at this;simp only[Qf]at this;exact this.1
theorem ZT.I {c:Cj} (h:ZT c):c.a.length<=1000:=by
 have:=h.A;unfold aD at this;simp only[Qf,Bool.not_eq_true',Bool.or_eq_false_iff,decide_eq_false_iff_not]at this;omega
theorem ZT.J {c:Cj} (h:ZT c):c.d.length=c.c.length:=by
 have:=h.A;unfold aD at this;simp only[Qf,Bool.not_eq_true',Bool.or_eq_false_iff,Bool.not_eq_false',decide_eq_true_eq]at this;omega
theorem Jr:∀ {l:List Cw} {bs cs:List (List UInt8)},WK bs l=some cs->∀p∈l,0<=p.2/\p.2<=4
 | [],_,_,_,p,hp=>by cases hp
 |q::l,bs,cs,h,p,hp=>by
  unfold WK at h;split at h
  .next hq=>
   rcases Qk.1 hp with rfl|hp
   .unfold oJ at hq;simp only[Qf]at hq;exact VW.1 hq.2.2
   .exact Jr h p hp
  .cases h
theorem ZT.z {c:Cj} (h:ZT c):∀p∈c.b,0<=p.2/\p.2<=4:=by
 have:=h.G;unfold Zy at this;rw[Qf]at this;have:=this.2;split at this
 .next l hl=>exact Jr hl
 .cases this
theorem ZT.B {c:Cj} (h:ZT c):∀p∈c.c,0<=p.2/\p.2<=4:=by
 have:=h.G;unfold Zy at this;rw[Qf]at this;have:=this.2;split at this
 .next l hl=>
  cases hn:WK l c.c with
  |none=>rw[hn]at this;cases this
  |some m=>exact Jr hn
 .cases this
theorem Ga {l:List Cw} (h:∀p∈l,0<=p.2/\p.2<=4) (n:Int):0<=g_ l n/\g_ l n<=4:=by
 unfold g_;rcases Nat.lt_or_ge n.toNat l.length with hn|hn
 .rw[Ao hn];exact h _ (Ql hn)
 .rw[List.getD_eq_getElem?_getD,List.getElem?_eq_none hn];simp
def eg (l:List Int) (n:Int):Bool:=(List.range l.length).all fun i=> !decide (n<=l.getD i 0)
theorem yC (l:List Int) (n:Int) (hn:l.length<=4000):Co (EK U_) 122 [Cq CN 1 l,.int .i64 n] S0 (.bool (eg l n)):=by
 refine As U<|Ew U<|Sq<|Ew U<|Sb ?_;refine Ai (fun i:Nat=>([(5,.int .i64 (i:Nat)),(1,.int .i64 n),(0,Cq CN 1 l)],Xc 0 0 [] [])) (fun i=>l.length-i) (fun i=>i<=l.length/\(List.range i).all (fun i=> !decide (n<=l.getD i 0))=true) 0 ⟨Qo _,rfl⟩ U (Ab (by repeat' constructor)) ?_;rintro i ⟨hi,hs⟩;dsimp only at hi hs|-;by_cases h:i<l.length
 .have hp:=Af AD h;focus
   refine Sq<|Ew U ?_;refine Cb U (fun g1=>?_) (fun g1=>?_);have h1:=dT g1;refine Sk<|Sq<|Sb<|Es<|Lv 2 U<|Lq (kv U hp) U<|Lw U ?_;refine Cb U (fun g2=>?_) (fun g2=>?_);have h2:=dT g2;refine Ew U ?_;refine Se (Er U ?_);refine Aa ?_;rotate_left;have h2:=dF g2;refine Cu.skip<|Do<|qm U ?_;refine Lq (IH (b:=1) U ey U U (by omega)) U ?_;refine Lw U ?_;rotate_left;have h1:=dF g1;exact absurd h1 (by omega)
  .unfold eg;rw[Kz (i:=i) h (by rw[Ao h,g2];rfl)]
  .exact⟨i+1,⟨h,D0 hs (by rw[Ao h,g2];rfl)⟩,by show l.length-(i+1)<l.length-i;omega,U,U,Ab (by repeat' constructor)⟩
 .focus
   refine Sq<|Ew U ?_;refine Cd U (fun h1=>?_) (fun h1=>?_);exact absurd h1 (by omega);refine Sx<|A0 U<|Ew U ?_;refine Se (Er U ?_);refine Aa ?_;rotate_left
  obtain rfl:i=l.length:=by omega
  exact hs.symm
abbrev BelT:= {p:List Int×Int//p.1.length<=4000}
noncomputable def K16:=WA U_ 122 (fun p:BelT=>[Cq CN 1 p.1.1,.int .i64 p.1.2]) (fun p=> .bool (eg p.1.1 p.1.2))
theorem hit_122 {n:Int} (h:l.length<=4000):K16 122 [Cq CN 1 l,.int .i64 n]=some (.bool (eg l n)):=
 Ak (f:=122) (enc:=fun p:BelT=>[Cq CN 1 p.1.1,.int .i64 p.1.2]) (res:=fun p=> .bool (eg p.1.1 p.1.2)) (by
  rintro⟨⟨a,b⟩,_⟩ ⟨⟨c,d⟩,_⟩ h;simp only[List.cons.injEq,and_true,AV.int.injEq,true_and]at h;obtain rfl:=AT FV AD h.1;obtain rfl:=h.2;rfl) ⟨(l,n),h⟩
theorem all16 (h:Wh Tryz.prog 10 [] (.bool true)):C6 Tryz.prog K16:=Aw Au (yq h) (fun p:BelT=>yC p.1.1 p.1.2 p.2) (fun _=>rfl) (fun _=>rfl)
def Wc (c:Cj) (k:Nat) (x:X8) (n:Int):List WL:=
 if x.op=1 then x.b.map fun a=>(a.2,n+g_ c.b a.1)
 else if x.op=2 then x.d.map fun t=>(t,n)
 else if x.op=4\/x.op=5 then [(((k+1:Nat):Int),n+1)]
 else []
def XO (x:X8) (n:Int):Bool:=
 if x.op=1\/x.op=6 then decide (x.a<n)else if x.op=5 then eg x.args n else true
def jM (l:List WL):AV:=bH (l.flatMap Y9) l.length 2
theorem LB (l:List WL):(l.flatMap Y9).all aL=true:=by
 rw[List.all_flatMap];exact List.all_eq_true.2 fun _ _=>rfl
theorem JP (l:List WL):(l.flatMap Y9).all (Cr 40)=true:=by
 rw[List.all_flatMap];exact List.all_eq_true.2 fun _ _=>rfl
theorem Vl (c:Cj) (k:Nat) (n:Int) (hc:ZT c) (hk:k<c.a.length) (hn:0<=n/\n<=60):Co (EK K16) 73 [.O (CJ c),.int .i64 (k:Nat),.int .i64 n] S0 (.Y [jM (Wc c k c.a[k] n),.bool (XO c.a[k] n)]):=by
 refine As U ?_;have Z4:=Af A8 hk;have ha:=hc.a.args _ (Ql hk);have oG:=hc.a.f _ (Ql hk);have fq:=hc.a.a _ (Ql hk);have W6:=hc.g hk;have hl:=hc.I;generalize hx:c.a[k]=x at*;focus
  refine Eh U<|Es<|Ls 3 U<|Lq (kv U Z4) U<|Lx U<|Ew U<|Sq<|Eh U<|Sb<|Ew U ?_;refine Cd U (fun h1=>?_) (fun h1=>?_);refine Sq<|Ew U<|Sb ?_;rotate_left;refine Ew U ?_;refine Cd U (fun h2=>?_) (fun h2=>?_);refine Sq<|Ew U<|Sb ?_;rotate_left;refine Ew U ?_;refine Cd U (fun h3=>?_) (fun h3=>?_);refine Es<|qm U ?_;refine Lq (ka (b:=1) U (by omega)) U ?_;refine qm U<|Lq (X3.add U ey U U (by omega)) U<|Lv 1 U<|Lo (Bo 3 U Ma Gi LV U U U U) U<|Lw U ?_;rotate_left;refine Ew U ?_;refine Cd U (fun h4=>?_) (fun h4=>?_);refine Es<|qm U ?_;refine Lq (ka (b:=1) U (by omega)) U ?_;refine qm U<|Lq (X3.add U ey U U (by omega)) U<|Lv 1 U<|Lo (Bo 3 U Ma Gi LV U U U U) U<|Ls 3 U ?_;refine Lo (kc U (hit_122 (by omega))) U ?_;refine Lw U ?_;rotate_left;refine Ew U ?_;refine Cd U (fun h5=>?_) (fun h5=>?_);refine Ad (by kernel_rfl)<|Nv 1 U<|Aj U LJ D9 U U U (by kernel_rfl) (.inl U) U U<|Nw U ?_
  refine Se ⟨.inl U,U,U,U,_,_,_,(Ac U (Ac U U)),U,U,?_⟩;rotate_left;refine Sk<|Ew U ?_;refine Se ⟨.inl U,U,U,U,_,_,_,(Ac U (Ac U U)),U,U,?_⟩;rotate_left
 .have hL:Wc c k x n=x.b.map fun a=>(a.2,n+g_ c.b a.1):=by unfold Wc;rw[if_pos h1]
  rw[hL];have halt:=W6;rw[Io h1]at halt;simp only[Qf]at halt;replace halt:=halt.2.2.2;generalize hLL:(x.b.map fun a=>(a.2,n+g_ c.b a.1))=L;have hLl:L.length=x.b.length:=by rw[<-hLL,Qn]
  refine Ai (fun y:Nat×AV×St=>([(10,.int .i64 (y.1:Nat)),(9,y.2.1),(8,.J 1 0),(3,.J 0 0),(2,.int .i64 n)],y.2.2)) (fun y=>L.length-y.1)
   (fun y=>y.1<=L.length/\a_ y.2.2 152 2 y.2.1 ((L.take y.1).flatMap Y9) y.1/\(y.2.2.b.g 0=some (.J (CJ c) 28 false)/\y.2.2.b.g 1=some (.J (Wj x) 58 false))/\2<=y.2.2.a/\(∀d,CB d y.2.1=true->2<=d)/\y.2.2.c=0/\y.2.2.d=[])
   (0,.Ca,Xc 2 0 [] [(1,some (.J (Wj x) 58 false)),(1,some (.J [.int .i64 0,.int .i64 0,.Ca,.Ca,.int .i64 0,.int .i64 0,.Ca] 58 false)),(0,some (.J (CJ c) 28 false))]) ⟨Qo _,a_.nil ..,⟨AM 0,AM 1⟩,Qj _,fun d h=>(by cases h),rfl,rfl⟩ rfl (Ab (by repeat' constructor)) ?_
  rintro⟨i,v,st⟩ ⟨hi,ah,⟨bD,Yw⟩,ZL,jK,YH,Yc⟩;dsimp only at hi ah bD Yw ZL jK YH Yc|-;by_cases h:i<L.length
  .have qx:i<x.b.length:=by omega
   have hp:=Af BE qx;have Y0:=GJ (n:=x.b.length) halt qx;unfold aS at Y0;rw[Ao qx]at Y0;simp only[Qf]at Y0;obtain⟨hz,C5⟩:=VW.1 Y0.1.1;have ow:=Af Av (l:=c.b) (i:=x.b[i].1.toNat) (by omega);have uC:=hc.z _ (Ql (show x.b[i].1.toNat<c.b.length by omega));focus
    refine Sq<|Es<|Lv 2 U<|Lo (kl U Yw U) U<|Lw U ?_;refine Cd U (fun h2=>?_) (fun h2=>?_);refine Sk<|Sq<|Sb<|AK (by kernel_rfl)<|Nv 2 U<|Nm U Yw U (.inl U) U<|Nv 1 U<|Nq (kv U hp) U<|Nv 5 U<|Nm U bD U (.inl U) U<|Nv 1 U<|Nm U Yw U (.inl U) U<|Nv 1 U<|Nq (kv U hp) U<|Nv 2 U<|Nq (AW U ra Nf U U (by first|assumption|omega) ow) U ?_;refine Nv 2 U<|Nq (X3.add U ey U U (by omega)) U<|Nv 1 U<|AI U Ma Gi LV U U U (.inl U) U U ?_;rotate_left;exact absurd h2 (by omega)
   refine Iv (VZ:=16) ah YH U (by decide) U (A3 (by omega) (by decide)) U U U U Ma Gi O6 LV U U U U (by kernel_rfl) (IC (by kernel_rfl) U) (.inl U) U U ?_;intro v2 XW dA hG2 rL dx hh2 fD dD;have Xo:∀b,b<2->CB b v=false:=fun b hb=>by
    cases ho:CB b v with
    |false=>rfl
    |true=>have:=jK b ho;omega
   refine Nw U<|Sr<|qm U ?_;refine Lq (ka (b:=1) U (by omega)) U ?_;refine Lw U ?_;refine⟨(i+1,v2,XW),⟨h,?_,⟨(hh2 0 (by omega) (Xo 0 (by decide))).trans bD,(hh2 1 (by omega) (Xo 1 (by decide))).trans Yw⟩,Nat.le_trans ZL dx,fun d hd=>Nat.le_trans ZL (rL d hd),dD,fD.trans Yc⟩,by show L.length-(i+1)<L.length-i;omega,rfl,rfl,Ab (by repeat' constructor)⟩;rw[List.take_add_one,Qi h,Option.toList_some,List.flatMap_append];have hLi:L[i]=(x.b[i].2,n+g_ c.b x.b[i].1):=by simp only[<-hLL,List.getElem_map]
   have eM:g_ c.b x.b[i].1=c.b[x.b[i].1.toNat].2:=by unfold g_;rw[Ao]
   rw[hLi,eM];exact hG2
  .obtain rfl:i=L.length:=by omega
   rw[List.take_length]at ah;focus
    refine Sq<|Es<|Lv 2 U<|Lo (kl U Yw U) U<|Lw U ?_;refine Cd U (fun h2=>?_) (fun h2=>?_);exact absurd h2 (by omega);refine Sx<|A0 U<|Ad (by kernel_rfl)<|Nv 2 U<|Nm U Yw U (.inl U) U<|Nw U ?_;rotate_left
   obtain⟨ks,hf,hu⟩:=ah.ret2 (LB L) (JP L) (decide (x.a<n));refine Se ⟨.inl U,U,Yc,YH,_,_,ks,(Ac U (Ac U U)),hf,hu,?_⟩;unfold XO;rw[if_pos (.inl h1)];rfl
 .have hL:Wc c k x n=x.d.map fun t=>(t,n):=by unfold Wc;rw[if_neg h1,if_pos h2]
  rw[hL];generalize hLL:(x.d.map fun t=>(t,n))=L;have hLl:L.length=x.d.length:=by rw[<-hLL,Qn]
  refine Ai (fun y:Nat×AV×St=>([(11,.int .i64 (y.1:Nat)),(9,y.2.1),(8,.J 1 0),(3,.J 0 0),(2,.int .i64 n)],y.2.2)) (fun y=>L.length-y.1)
   (fun y=>y.1<=L.length/\a_ y.2.2 152 2 y.2.1 ((L.take y.1).flatMap Y9) y.1/\y.2.2.b.g 1=some (.J (Wj x) 58 false)/\2<=y.2.2.a/\(∀d,CB d y.2.1=true->2<=d)/\y.2.2.c=0/\y.2.2.d=[])
   (0,.Ca,Xc 2 0 [] [(1,some (.J (Wj x) 58 false)),(1,some (.J [.int .i64 0,.int .i64 0,.Ca,.Ca,.int .i64 0,.int .i64 0,.Ca] 58 false)),(0,some (.J (CJ c) 28 false))]) ⟨Qo _,a_.nil ..,AM 1,Qj _,fun d h=>(by cases h),rfl,rfl⟩ rfl (Ab (by repeat' constructor)) ?_
  rintro⟨i,v,st⟩ ⟨hi,ah,Yw,ZL,jK,YH,Yc⟩;dsimp only at hi ah Yw ZL jK YH Yc|-;by_cases h:i<L.length
  .have qx:i<x.d.length:=by omega
   have hp:=Af AD qx;focus
    refine Sq<|Es<|Lv 2 U<|Lo (kl U Yw U) U<|Lw U ?_;refine Cd U (fun h3=>?_) (fun h3=>?_);refine Sk<|Sq<|Sb<|Sr<|Lv 2 U<|Lo (kl U Yw U) U<|qm U<|Lq (kv U hp) U<|Lv 3 U<|Lo (AX U Ma Gi LV U U U) U ?_;rotate_left;exact absurd h3 (by omega)
   refine Iw (VZ:=16) ah YH U (by decide) U (A3 (by omega) (by decide)) U U U U Ma Gi O6 LV U U U U U U U ?_;intro v2 XW hG2 rL dx hh2 fD dD;have Xo:CB 1 v=false:=by
    cases ho:CB 1 v with
    |false=>rfl
    |true=>have:=jK 1 ho;omega
   have pY:XW.d=[]:=List.eq_nil_iff_forall_not_mem.2 fun c hc=>by have:=fD c hc;rw[Yc]at this;cases this
   refine Lw U<|Sr<|qm U ?_;refine Lq (ka (b:=1) U (by omega)) U ?_;refine Lw U ?_;refine⟨(i+1,v2,XW),⟨h,?_,(hh2 1 (by omega) Xo).trans Yw,Nat.le_trans ZL dx,fun d hd=>Nat.le_trans ZL (rL d hd),dD,pY⟩,by show L.length-(i+1)<L.length-i;omega,rfl,rfl,Ab (by repeat' constructor)⟩;rw[List.take_add_one,Qi h,Option.toList_some,List.flatMap_append];have hLi:L[i]=(x.d[i],n):=by simp only[<-hLL,List.getElem_map]
   rw[hLi];exact hG2
  .obtain rfl:i=L.length:=by omega
   rw[List.take_length]at ah;focus
    refine Sq<|Es<|Lv 2 U<|Lo (kl U Yw U) U<|Lw U ?_;refine Cd U (fun h3=>?_) (fun h3=>?_);exact absurd h3 (by omega);refine Sx<|A0 U<|Ew U ?_;rotate_left
   obtain⟨ks,hf,hu⟩:=ah.ret2 (LB L) (JP L) true;refine Se ⟨.inl U,U,Yc,YH,_,_,ks,(Ac U (Ac U U)),hf,hu,?_⟩;unfold XO;rw[if_neg (by omega),if_neg (by omega)];rfl
 .refine Se ⟨.inl U,U,U,U,_,.Y [.Ck [.int .i64 ((k+1:Nat):Int),.int .i64 (n+1)] 1 2 true,.bool true],[2],(Ac U (Ac U U)),by kernel_rfl,by kernel_rfl,?_⟩;unfold Wc XO;rw[if_neg (by omega),if_neg (by omega),if_pos (by omega),if_neg (by omega),if_neg (by omega)];rfl
 .refine Se ⟨.inl U,U,U,U,_,.Y [.Ck [.int .i64 ((k+1:Nat):Int),.int .i64 (n+1)] 1 2 true,.bool (eg x.args n)],[2],(Ac U (Ac U U)),by kernel_rfl,by kernel_rfl,?_⟩;unfold Wc XO;rw[if_neg (by omega),if_neg (by omega),if_pos (by omega),if_neg (by omega),if_pos (by omega)];rfl
 .unfold Wc XO;rw[if_neg (by omega),if_neg (by omega),if_neg (by omega),if_pos (by omega)];rfl
 .unfold Wc XO;rw[if_neg (by omega),if_neg (by omega),if_neg (by omega),if_neg (by omega),if_neg (by omega)];rfl
abbrev yD:= {p:Cj×Nat×Int//ZT p.1/\p.2.1<p.1.a.length/\0<=p.2.2/\p.2.2<=60}
def yD.x (p:yD):X8:=p.1.1.a[p.1.2.1]'p.2.2.1
noncomputable def O_:=WA K16 73 (fun p:yD=>[.O (CJ p.1.1),.int .i64 (p.1.2.1:Nat),.int .i64 p.1.2.2]) (fun p=> .Y [jM (Wc p.1.1 p.1.2.1 p.x p.1.2.2),.bool (XO p.x p.1.2.2)])
theorem hit_73 {c:Cj} {k:Nat} {n:Int} (hc:ZT c) (hk:k<c.a.length) (h0:0<=n) (hn:n<=60):O_ 73 [.O (CJ c),.int .i64 (k:Nat),.int .i64 n]=some (.Y [jM (Wc c k c.a[k] n),.bool (XO c.a[k] n)]):=
 Ak (f:=73) (enc:=fun p:yD=>[.O (CJ p.1.1),.int .i64 (p.1.2.1:Nat),.int .i64 p.1.2.2]) (res:=fun p=> .Y [jM (Wc p.1.1 p.1.2.1 p.x p.1.2.2),.bool (XO p.x p.1.2.2)]) (by
  rintro⟨⟨a,b,c⟩,_⟩ ⟨⟨a',b',c'⟩,_⟩ h;simp only[List.cons.injEq,and_true,AV.int.injEq,true_and]at h;obtain⟨h1,h2,rfl⟩:=h;obtain rfl:=Hi h1;obtain rfl:b=b':=by omega
  rfl) ⟨(c,k,n),hc,hk,h0,hn⟩
theorem Nh (l:List WL) (b:Bool):Cr 40 (.Y [jM l,.bool b])=true:=by
 unfold jM bH;cases Nat.beq l.length 0<;>rfl
theorem all17 (h:Wh Tryz.prog 10 [] (.bool true)):C6 Tryz.prog O_:=Aw Au (all16 h) (fun p:yD=>Vl p.1.1 p.1.2.1 p.1.2.2 p.2.1 p.2.2.1 p.2.2.2) (fun _=>rfl) (fun _=>Nh _ _)
def oA (l:List Int) (i:Nat):Int:=l.getD i (-1)
theorem Ik {j:Nat} {v:Int} (h:i<l.length):oA (l.set i v) j=if j=i then v else oA l j:=by grind [oA]
theorem tW (h:i<l.length):oA l i=l[i]:=Ao h
structure oN (c:Cj) (S:List Int):Prop where
 e:S.length=c.a.length
 g:∀i,oA S i= -1\/0<=oA S i
 b:∀f,f<c.d.length->oA S (c.d.getD f 0).toNat=g_ c.c f
 a:∀i,i<c.a.length->0<=oA S i->XO (Y6 c i) (oA S i)=true
 d:∀i,i<c.a.length->0<=oA S i->∀p∈Wc c i (Y6 c i) (oA S i),p.1<c.a.length/\p.2<=60/\oA S p.1.toNat=p.2
 k:∀i,i<c.a.length->0<=oA S i->(∃f,f<c.d.length/\(c.d.getD f 0).toNat=i)\/∃j,j<i/\0<=oA S j/\∃p∈Wc c j (Y6 c j) (oA S j),p.1.toNat=i
theorem yE {c:Cj} {b:List Int} (ha:oN c a) (hb:oN c b):∀i,i<c.a.length->0<=oA a i->oA b i=oA a i:=by
 intro i;induction i using Nat.strongRecOn with
 |_ i ih=>
  intro hi h0;rcases ha.k i hi h0 with⟨f,hf,rfl⟩|⟨j,hj,hj0,p,hp,rfl⟩
  .rw[ha.b f hf,hb.b f hf]
  .have e:=ih j hj (by omega) hj0;rw[(ha.d j (by omega) hj0 p hp).2.2];exact(hb.d j (by omega) (by rw[e];exact hj0) p (by rw[e];exact hp)).2.2
theorem sol_one {c:Cj} {b:List Int} (ha:oN c a) (hb:oN c b):a=b:=by
 apply List.ext_getElem (ha.e.trans hb.e.symm);intro i h1 h2;have hi:i<c.a.length:=ha.e▸h1;rw[<-tW h1,<-tW h2];rcases ha.g i with h|h
 .rcases hb.g i with h'|h'
  .rw[h,h']
  .exact yE hb ha i hi h'
 .exact(yE ha hb i hi h).symm
noncomputable def WI (c:Cj):Option (List Int):=by
 classical exact if h:∃S,oN c S then some h.choose else none
theorem It {c:Cj} (h:oN c S):WI c=some S:=by
 unfold WI;have he:∃S,oN c S:=⟨S,h⟩
 rw[dif_pos he,sol_one he.choose_spec h]
theorem FB {c:Cj} (h:∀S,¬oN c S):WI c=none:=by grind [WI]
theorem Fj {c:Cj} {k:Nat} {x:X8} {n:Int} (hc:ZT c) (hi:YO c k x=true) (hk:k<c.a.length) (hn:0<=n) (hp:p∈Wc c k x n):(k:Int)<p.1/\p.1<=c.a.length/\0<=p.2:=by
 unfold Wc at hp;split at hp
 .next h1=>
  rw[Io h1]at hi;simp only[Qf]at hi;obtain⟨a,ha,rfl⟩:=List.mem_map.1 hp;obtain⟨i,hl,rfl⟩:=List.mem_iff_getElem.1 ha;have Y0:=GJ (n:=x.b.length) hi.2.2.2 hl;unfold aS at Y0;rw[Ao hl]at Y0;simp only[Qf]at Y0;have h2:=VW.1 Y0.2;have h3:=Ga hc.z x.b[i].1;refine⟨?_,?_,?_⟩<;>dsimp only<;>omega
 .split at hp
  .next h1 h2=>
   rw[Oc h2]at hi;simp only[Qf]at hi;obtain⟨a,ha,rfl⟩:=List.mem_map.1 hp;obtain⟨i,hl,rfl⟩:=List.mem_iff_getElem.1 ha;have hi2:=hi.2.2.2;unfold Yv at hi2;rw[Qf]at hi2;have Y0:=GJ (n:=x.d.length) hi2.1 hl;unfold bM at Y0;rw[Ao hl]at Y0;have h2:=VW.1 Y0;refine⟨?_,?_,?_⟩<;>dsimp only<;>omega
  .grind
theorem T6 {c:Cj} {k:Nat} {n:Int} (hc:ZT c) (hk:k<c.a.length):(Wc c k (Y6 c k) n).length<=4000:=by
 have h1:=hc.a.a _ (Ql hk);have h2:=hc.a.f _ (Ql hk);rw[B2 hk];unfold Wc;split
 .rw[Qn];exact h1
 .grind
structure Wl (c:Cj) (out:List Int) (todo:List WL) (i:Nat):Prop where
 e:out.length=c.a.length
 n:∀a,oA out a= -1\/(0<=oA out a/\oA out a<=60)
 l:∀p∈todo,0<=p.1/\0<=p.2
 b:∀S,oN c S->(∀a,0<=oA out a->oA S a=oA out a)/\∀p∈todo,p.1<c.a.length/\p.2<=60/\oA S p.1.toNat=p.2
 d:∀k,k<i->∀(h:k<todo.length),todo[k].1<c.a.length/\todo[k].2<=60/\oA out todo[k].1.toNat=todo[k].2
 m:∀a,a<c.a.length->0<=oA out a->XO (Y6 c a) (oA out a)=true/\∀p∈Wc c a (Y6 c a) (oA out a),p∈todo
 o:∀f,f<c.d.length->(c.d.getD f 0,g_ c.c f)∈todo
 q:∀p∈todo,(∃f,f<c.d.length/\(c.d.getD f 0).toNat=p.1.toNat)\/∃j:Nat,(j:Int)<p.1/\j<c.a.length/\0<=oA out j/\p∈Wc c j (Y6 c j) (oA out j)
 g:∀a,a<c.a.length->0<=oA out a->∃p∈todo,p.1.toNat=a
theorem Jm (n a:Nat):oA (List.replicate n (-1)) a= -1:=by
 unfold oA;rw[List.getD_eq_getElem?_getD,List.getElem?_replicate];split<;>rfl
def ZG (c:Cj):List WL:=(List.range c.d.length).map fun f=>(c.d.getD f 0,g_ c.c f)
theorem Gs {c:Cj} (hc:ZT c) (hp:p∈ZG c):∃f,f<c.d.length/\p=(c.d.getD f 0,g_ c.c f)/\0<=p.1/\p.1<c.a.length/\0<=p.2/\p.2<=4:=by
 obtain⟨f,hf,rfl⟩:=List.mem_map.1 hp;have hf:=List.mem_range.1 hf;have h1:=hc.u hf;have h2:=Ga hc.B f;rw[<-Ao (d:=0) hf]at h1;exact⟨f,hf,U,h1.1,h1.2,h2.1,h2.2⟩
theorem Wl.z {c:Cj} (hc:ZT c):Wl c (List.replicate c.a.length (-1)) (ZG c) 0 where
 e:=List.length_replicate
 n:=fun a=> .inl (Jm _ a)
 l:=fun p hp=>by obtain⟨f,_,_,h1,_,h2,_⟩:=Gs hc hp;exact⟨h1,h2⟩
 b:=fun S hS=>⟨fun a h=>by rw[Jm]at h;omega,fun p hp=>by
  obtain⟨f,hf,he,h1,h2,h3,h4⟩:=Gs hc hp;refine⟨h2,by omega,?_⟩;rw[he];exact hS.b f hf⟩
 d:=fun k hk=>absurd hk (Nat.not_lt_zero _)
 m:=fun a _ h=>by rw[Jm]at h;omega
 o:=fun f hf=>List.mem_map.2 ⟨f,List.mem_range.2 hf,rfl⟩
 q:=fun p hp=>by obtain⟨f,hf,he,_⟩:=Gs hc hp;exact .inl ⟨f,hf,by rw[he]⟩
 g:=fun a _ h=>by rw[Jm]at h;omega
theorem Wl.u {c:Cj} {out:List Int} (h:Wl c out todo i) (hp:p∈todo)
 (hb:¬p.1<c.a.length\/60<p.2\/(0<=oA out p.1.toNat/\oA out p.1.toNat≠p.2)\/XO (Y6 c p.1.toNat) p.2=false):WI c=none:=
 FB fun S hS=>by
  obtain⟨h1,h2⟩:=h.b S hS;obtain⟨h3,h4,h5⟩:=h2 p hp;have h0:=h.l p hp;rcases hb with hb|hb|⟨hb,ZJ⟩|hb
  .exact hb h3
  .omega
  .grind
  .have:=hS.a p.1.toNat (by omega) (by rw[h5];exact h0.2);rw[h5,hb]at this;cases this
theorem Wl.A {c:Cj} {out:List Int} (h:Wl c out todo i) (hi:i<todo.length) (h1:todo[i].1<c.a.length) (h2:todo[i].2<=60) (h3:oA out todo[i].1.toNat=todo[i].2):Wl c out todo (i+1):=
 ⟨h.e,h.n,h.l,h.b,fun k hk hl=>by
  rcases Nat.lt_or_ge k i with C5|dq
  .exact h.d k C5 hl
  .obtain rfl:k=i:=by omega
   exact⟨h1,h2,h3⟩,h.m,h.o,h.q,h.g⟩
theorem Wl.B {c:Cj} {out:List Int} (hc:ZT c) (h:Wl c out todo i) (hi:i<todo.length) (h1:todo[i].1<c.a.length) (h2:todo[i].2<=60) (h3:¬0<=oA out todo[i].1.toNat) (h4:XO (Y6 c todo[i].1.toNat) todo[i].2=true):
 Wl c (out.set todo[i].1.toNat todo[i].2) (todo++Wc c todo[i].1.toNat (Y6 c todo[i].1.toNat) todo[i].2) (i+1):=by
 have hm:=Ql hi;generalize hq:todo[i]=q at*;obtain⟨q0,q1⟩:=h.l q hm;have hql:q.1.toNat<c.a.length:=by omega
 have hqo:q.1.toNat<out.length:=by rw[h.e];exact hql
 have ji:=fun j=>Ik (l:=out) (i:=q.1.toNat) (j:=j) (v:=q.2) hqo;have W6:YO c q.1.toNat (Y6 c q.1.toNat)=true:=by rw[B2 hql];exact hc.g hql
 have CQ:∀a,0<=oA out a->oA (out.set q.1.toNat q.2) a=oA out a:=fun a ha=>by
  rw[ji,if_neg (fun e=>by subst e;exact h3 ha)]
 refine⟨by rw[List.length_set];exact h.e,fun a=>?_,fun p hp=>?_,fun S hS=>⟨fun a ha=>?_,fun p hp=>?_⟩,fun k hk hl=>?_,fun a ha h0=>?_,fun f hf=>List.mem_append_left _ (h.o f hf),fun p hp=>?_,fun a ha h0=>?_⟩
 .rw[ji];split
  .exact .inr ⟨q1,h2⟩
  .exact h.n a
 .rcases List.mem_append.1 hp with hp|hp
  .exact h.l p hp
  .have:=Fj hc W6 hql q1 hp;exact⟨by omega,this.2.2⟩
 .rw[ji]at ha|-;split at ha
  .next e=>subst e;rw[if_pos rfl];exact((h.b S hS).2 q hm).2.2
  .next e=>rw[if_neg e];exact(h.b S hS).1 a ha
 .rcases List.mem_append.1 hp with hp|hp
  .exact(h.b S hS).2 p hp
  .have e:=((h.b S hS).2 q hm).2.2;exact hS.d q.1.toNat hql (by rw[e];exact q1) p (by rw[e];exact hp)
 .have iX:k<todo.length:=by omega
  rw[List.getElem_append_left iX];rcases Nat.lt_or_ge k i with C5|dq
  .obtain⟨d1,d2,d3⟩:=h.d k C5 iX;have d0:=h.l _ (Ql iX);exact⟨d1,d2,by rw[CQ _ (by rw[d3];exact d0.2)];exact d3⟩
  .obtain rfl:k=i:=by omega
   rw[hq];exact⟨h1,h2,by rw[ji,if_pos rfl]⟩
 .rw[ji]at h0|-;split at h0
  .next e=>
   subst e;rw[if_pos rfl];exact⟨h4,fun p hp=>List.mem_append_right _ hp⟩
  .next e=>
   rw[if_neg e];exact⟨(h.m a ha h0).1,fun p hp=>List.mem_append_left _ ((h.m a ha h0).2 p hp)⟩
 .rcases List.mem_append.1 hp with hp|hp
  .rcases h.q p hp with w|⟨j,j1,j2,j3,j4⟩
   .exact .inl w
   .exact .inr ⟨j,j1,j2,by rw[CQ j j3];exact j3,by rw[CQ j j3];exact j4⟩
  .have:=Fj hc W6 hql q1 hp;exact .inr ⟨q.1.toNat,this.1,hql,by rw[ji,if_pos rfl];exact q1,by rw[ji,if_pos rfl];exact hp⟩
 .rw[ji]at h0;split at h0
  .next e=>exact⟨q,List.mem_append_left _ hm,e.symm⟩
  .obtain⟨p,hp,e⟩:=h.g a ha h0;exact⟨p,List.mem_append_left _ hp,e⟩
theorem Wl.G {c:Cj} {out:List Int} (h:Wl c out todo todo.length):oN c out where
 e:=h.e
 g:=fun a=>(h.n a).imp id fun h=>h.1
 b:=fun f hf=>by
  obtain⟨k,hk,e⟩:=List.mem_iff_getElem.1 (h.o f hf);have:=(h.d k hk hk).2.2;rw[e]at this;exact this
 a:=fun i hi h0=>(h.m i hi h0).1
 d:=fun i hi h0 p hp=>by
  obtain⟨k,hk,e⟩:=List.mem_iff_getElem.1 ((h.m i hi h0).2 p hp);have:=h.d k hk hk;rw[e]at this;exact this
 k:=fun i hi h0=>by
  obtain⟨p,hp,rfl⟩:=h.g i hi h0;rcases h.q p hp with w|⟨j,j1,j2,j3,j4⟩
  .exact .inl w
  .exact .inr ⟨j,by omega,j3,p,j4,U⟩
def zs (l:List Int):List AV:=l.map (AV.int .i64)
theorem IK (l:List Int):(zs l).length=l.length:=Qn ..
theorem G6 (l:List Int):(zs l).all aL=true:=by
 unfold zs;rw[List.all_map];exact List.all_eq_true.2 fun _ _=>rfl
theorem MX (l:List Int):(zs l).all (Cr 40)=true:=by
 unfold zs;rw[List.all_map];exact List.all_eq_true.2 fun _ _=>rfl
theorem yF {k:Nat} (h:k<l.length):(zs l)[k]?=some (.int .i64 (oA l k)):=by
 unfold zs;rw[List.getElem?_map,Qi h,tW h];rfl
theorem yG {k:Nat} {v:Int}:(zs l).set k (.int .i64 v)=zs (l.set k v):=by
 unfold zs;rw[List.map_set]
noncomputable def W4 (c:Cj):AV:=match WI c with
 |some S=> .Y [bH (zs S) S.length 1,.bool true]
 |none=> .Y [.Ca,.bool false]
def eE (l:List Int):Nat:=l.countP fun v=>decide (v<0)
theorem Tz {k:Nat} {v:Int} (hk:k<l.length) (h:¬0<=oA l k) (hv:0<=v):eE (l.set k v)+1=eE l:=by
 unfold eE;rw[tW hk]at h;have hp:decide (l[k]<0)=true:=decide_eq_true (by omega);rw[List.countP_set hk,hp,decide_eq_false (by omega)];have:0<l.countP (fun v=>decide (v<0)):=List.countP_pos_iff.2 ⟨_,Ql hk,hp⟩;simp;omega
theorem yH (l:List Int):eE l<=l.length:=List.countP_le_length
theorem Jn {v:AV} (h:CB d v=true->False):CB d v=false:=by
 cases ho:CB d v with
 |false=>rfl
 |true=>exact(h ho).elim
theorem Sj (c:Cj) (hc:ZT c):Co (EK O_) 35 [.O (CJ c)] S0 (W4 c):=by
 refine As U ?_;have hl:=hc.I;have XM:=hc.a.g;have hfu:=hc.J;refine Eh U<|Ew U<|Sq<|Ew U<|Sb ?_;refine Ai (fun y:Nat×AV×St=>([(5,.int .i64 (y.1:Nat)),(4,y.2.1),(1,.J 0 0)],y.2.2)) (fun y=>c.a.length-y.1)
  (fun y=>y.1<=c.a.length/\a_ y.2.2 3 1 y.2.1 (zs (List.replicate y.1 (-1))) y.1/\y.2.2.b.g 0=some (.J (CJ c) 28 false)/\1<=y.2.2.a/\(∀d,CB d y.2.1=true->1<=d)/\y.2.2.c=0/\y.2.2.d=[])
  (0,.Ca,Xc 1 0 [] [(0,some (.J (CJ c) 28 false))]) ⟨Qo _,a_.nil ..,AM 0,Qj _,fun d h=>(by cases h),rfl,rfl⟩ rfl (Ab (by repeat' constructor)) ?_
 rintro⟨i,v,st⟩ ⟨hi,ah,bD,ZL,jK,YH,Yc⟩;dsimp only at hi ah bD ZL jK YH Yc|-;by_cases h:i<c.a.length
 .focus
   refine Sq<|Es<|Lv 2 U<|Lo (kl U bD U) U<|Lw U ?_;refine Cd U (fun h1=>?_) (fun h1=>?_);refine Sk<|Sq<|Sb<|Sr<|qm U<|Lo (AX U I1 D9 qZ U U U) U ?_;rotate_left;exact absurd h1 (by omega)
  refine Iw (VZ:=8) ah YH U (by decide) U (A3 (by omega) (by decide)) U U U U I1 D9 u4 qZ U U U U U U U ?_;intro v2 XW hG2 rL dx hh2 fD dD;have pY:XW.d=[]:=List.eq_nil_iff_forall_not_mem.2 fun c hc=>by have:=fD c hc;rw[Yc]at this;cases this
  refine Lw U<|Sr<|qm U ?_;refine Lq (ka (b:=1) U (by omega)) U ?_;refine Lw U ?_;refine⟨(i+1,v2,XW),⟨h,?_,(hh2 0 ZL (Jn fun ho=>by have:=jK 0 ho;omega)).trans bD,Nat.le_trans ZL dx,fun d hd=>Nat.le_trans ZL (rL d hd),dD,pY⟩,by show c.a.length-(i+1)<c.a.length-i;omega,rfl,rfl,Ab (by repeat' constructor)⟩;have e:zs (List.replicate (i+1) (-1))=zs (List.replicate i (-1))++[.int .i64 (-1)]:=by
   unfold zs;rw[List.replicate_succ',List.map_append];rfl
  show a_ XW _ 1 v2 (zs (List.replicate (i+1) (-1))) (i+1);rw[e];exact hG2
 obtain rfl:i=c.a.length:=by omega
 focus
  refine Sq<|Es<|Lv 2 U<|Lo (kl U bD U) U<|Lw U ?_;refine Cd U (fun h1=>?_) (fun h1=>?_);exact absurd h1 (by omega);refine Sx<|A0 U<|Ew U<|Sq<|Ew U<|Sb ?_;rotate_left
 refine Ai (fun y:Nat×AV×St=>([(7,.int .i64 (y.1:Nat)),(6,y.2.1),(4,v),(1,.J 0 0)],y.2.2)) (fun y=>c.d.length-y.1)
  (fun y=>y.1<=c.d.length/\a_ y.2.2 3 1 v (zs (List.replicate c.a.length (-1))) c.a.length/\a_ y.2.2 152 2 y.2.1 (((ZG c).take y.1).flatMap Y9) y.1/\y.2.2.b.g 0=some (.J (CJ c) 28 false)/\1<=y.2.2.a/\(∀d,CB d y.2.1=true->1<=d)/\(∀d,CB d v=true->CB d y.2.1=false)/\y.2.2.c=0/\y.2.2.d=[])
  (0,.Ca,st) ⟨Qo _,ah,a_.nil ..,bD,ZL,fun d h=>(by cases h),fun d h=>rfl,YH,Yc⟩ rfl (Ab (by repeat' constructor)) ?_
 clear ah bD ZL YH Yc;rintro⟨i,w,st⟩ ⟨hi,ah,ou,bD,ZL,ew,nG,YH,Yc⟩;dsimp only at hi ah ou bD ZL ew nG YH Yc|-;by_cases h:i<c.d.length
 .have hp:=Af AD h;have h':i<c.c.length:=by omega
  have ow:=Af Av h';focus
   refine Sq<|Es<|Lv 2 U<|Lo (kl U bD U) U<|Lw U ?_;refine Cd U (fun h2=>?_) (fun h2=>?_);refine Sk<|Sq<|Sb<|AK (by kernel_rfl)<|Nv 2 U<|Nm U bD U (.inl U) U<|Nv 1 U<|Nq (kv U hp) U<|Nv 3 U<|Nm U bD U (.inl U) U<|Nv 1 U<|Nq (kv U ow) U<|Nv 3 U<|AI U Ma Gi LV U U U (.inl U) U U ?_;rotate_left;exact absurd h2 (by omega)
  refine Iv (VZ:=16) ou YH U (by decide) U (A3 (by omega) (by decide)) U U U U Ma Gi O6 LV U U U U (by kernel_rfl) (IC (by kernel_rfl) U) (.inl U) U U ?_;intro w2 XW dA hG2 rL dx hh2 fD dD;refine Nw U<|Sr<|qm U ?_;refine Lq (ka (b:=1) U (by omega)) U ?_;refine Lw U ?_;have ma:∀d,d<st.a->CB d w=false->XW.b.g d=st.b.g d:=hh2;refine⟨(i+1,w2,XW),⟨h,ah.CQ dx fun d hd=>ma d (ah.own hd) (nG d hd),?_,(ma 0 ZL (Jn fun ho=>by have:=ew 0 ho;omega)).trans bD,Nat.le_trans ZL dx,fun d hd=>Nat.le_trans ZL (rL d hd),fun d hd=>Jn fun ho=>by have:=rL d ho;have:=ah.own hd;omega,dD,fD.trans Yc⟩,by show c.d.length-(i+1)<c.d.length-i;omega,rfl,rfl,Ab (by repeat' constructor)⟩;have rJ:i<(ZG c).length:=by unfold ZG;rw[Qn,List.length_range];exact h
  rw[List.take_add_one,Qi rJ,Option.toList_some,List.flatMap_append];have hLi:(ZG c)[i]=(c.d[i],c.c[i].2):=by
   simp only[ZG,List.getElem_map,List.getElem_range,Ao h];unfold g_;rw[Int.toNat_natCast,Ao h']
  rw[hLi];exact hG2
 obtain rfl:i=c.d.length:=by omega
 have rJ:(ZG c).length=c.d.length:=by unfold ZG;rw[Qn,List.length_range]
 rw[List.take_of_length_le (by omega)]at ou;focus
  refine Sq<|Es<|Lv 2 U<|Lo (kl U bD U) U<|Lw U ?_;refine Cd U (fun h2=>?_) (fun h2=>?_);exact absurd h2 (by omega);refine Sx<|A0 U<|Sq<|Ew U<|Sb ?_;rotate_left
 refine Ai (fun y:Nat×List Int×List WL×AV×St=>([(8,.int .i64 (y.1:Nat)),(6,y.2.2.2.1),(4,v),(1,.J 0 0)],y.2.2.2.2)) (fun y=>eE y.2.1*4001+(y.2.2.1.length-y.1))
  (fun y=>Wl c y.2.1 y.2.2.1 y.1/\y.1<=y.2.2.1.length/\y.2.2.1.length+eE y.2.1*4000<=4004000/\a_ y.2.2.2.2 3 1 v (zs y.2.1) c.a.length/\a_ y.2.2.2.2 152 2 y.2.2.2.1 (y.2.2.1.flatMap Y9) y.2.2.1.length/\y.2.2.2.2.b.g 0=some (.J (CJ c) 28 false)/\1<=y.2.2.2.2.a/\(∀d,CB d v=true->CB d y.2.2.2.1=false)/\(∀d,CB d y.2.2.2.1=true->1<=d)/\y.2.2.2.2.c=0/\y.2.2.2.2.d=[])
  (0,List.replicate c.a.length (-1),ZG c,w,st) ⟨Wl.z hc,Qo _,?_,ah,by rw[rJ];exact ou,bD,ZL,nG,ew,YH,Yc⟩ rfl (Ab (by repeat' constructor)) ?_
 .have:=yH (List.replicate c.a.length (-1));rw[List.length_replicate]at this;show(ZG c).length+eE (List.replicate c.a.length (-1))*4000<=_;omega
 clear ah ou bD ZL nG YH Yc ew;rintro⟨i,out,todo,w,st⟩ ⟨yI,hi,X2,ah,ou,bD,ZL,nG,ew,YH,Yc⟩;dsimp only at yI hi X2 ah ou bD ZL nG ew YH Yc|-;have hlen:=ou.len;by_cases h:i<todo.length
 .obtain⟨bt,rfl,hbt,hgbt,hidx⟩:=a_.at (sz:=1) ou h;rcases hq:todo[i]with⟨a,r⟩;have XU:(a,r)∈todo:=hq▸Ql h;obtain⟨ha0,mQ⟩:=yI.l _ XU;dsimp only at ha0 mQ;obtain⟨k,rfl⟩:∃k:Nat,a=k:=⟨a.toNat,by omega⟩
  obtain⟨qw,ct,hc3,q8,yb,uZ,hc7⟩:=AU (st:=st) (z:=[.int .i64 0,.int .i64 0]) (cs:=[.int .i64 (k:Nat),.int .i64 r]) (T:=152);have CU:=(uZ (by omega)).trans Yc;have eL:=yb.trans YH;have n8:=(q8 0 (by omega)).trans bD;have hgr':=ah.CQ (s':=(st.g (.J [.int .i64 0,.int .i64 0] 152 false)).z st.a (some (.J [.int .i64 (k:Nat),.int .i64 r] 152 false))) (Nat.le_succ _) fun d hd=>q8 d (ah.own hd);have hgt':=ou.CQ (s':=(st.g (.J [.int .i64 0,.int .i64 0] 152 false)).z st.a (some (.J [.int .i64 (k:Nat),.int .i64 r] 152 false))) (Nat.le_succ _) fun d hd=>q8 d (ou.own hd);have hlt1:Wq (EK O_) 152 st (.J bt (0+i*(1+1)))=some (.O [.int .i64 (k:Nat),.int .i64 r]):=by
   rw[Nat.zero_add,Bl ag_152 Gi hgbt (by rw[Hd BE];omega),He BE h,hq];rfl
  have eu:WI c=none->AV.Y [.Ca,.bool false]=W4 c:=fun h=>by unfold W4;rw[h]
  by_cases mO:k<c.a.length
  .obtain⟨b,rfl,hb,sr,hidxb⟩:=a_.at (sz:=0) ah mO;have wi:out.length=c.a.length:=yI.e;have uD:=(q8 b hb).trans sr;have qW:Wq (EK O_) 3 ((st.g (.J [.int .i64 0,.int .i64 0] 152 false)).z st.a (some (.J [.int .i64 (k:Nat),.int .i64 r] 152 false))) (.J b (0+k*(0+1)))=some (.int .i64 (oA out k)):=
    AA LJ D9 uD (by rw[Nat.zero_add,Nat.mul_one];exact yF (by omega))
   have eJ:todo[i].1<c.a.length:=by rw[hq];show(k:Int)<_;omega
   have rH:0+k*(0+1)<(zs out).length:=by rw[IK];omega
   focus
    refine Sq<|Ew U ?_;refine Cd U (fun h3=>?_) (fun h3=>?_);refine Sk<|Sq<|Sb<|Es<|Lv 2 U ?_;refine Lq (kM U (by omega)) U ?_;refine Lo (AQ U U hlt1) U<|Lo (kz U) U<|Ln (kw U qw U) U<|Ld<|Sq<|Ad (by kernel_rfl)<|Nv 1 U<|Nm U ct U (.inl U) U<|Nv 1 U<|Nm U n8 U (.inl U) U<|Nv 3 U ?_;refine Dd U (fun h4=>?_) (fun h4=>?_);exact absurd h4 (by omega);refine Nv 1 U<|Nm U ct U (gG U) U<|Nv 3 U ?_;refine Dd U (fun h5=>?_) (fun h5=>?_);refine Nw U<|Tt U<|Ew U ?_;refine Se ⟨.inl U,U,CU,eL,_,_,_,(Ac U (Ac U U)),U,U,?_⟩;rotate_left;refine Nv 2 U<|Nm U ct U (gG U) U ?_;refine Nz (kM U (by omega)) U U ?_;refine B9 U U qW U (gG U) U U<|Nv 2 U ?_;refine Db U (fun g6=>?_) (fun g6=>?_);have h6:=dT g6;refine Nv 2 U<|Nm U ct U (gG U) U ?_;refine Nz (kM U (by omega)) U U ?_;refine B9 U U qW U (gG U) U U<|Nv 1 U<|Nm U ct U (gG U) U<|Nw U ?_;refine Cb U (fun g7=>?_) (fun g7=>?_);have h7:=nT g7
    refine Ew U ?_;refine Se ⟨.inl U,U,CU,eL,_,_,_,(Ac U (Ac U U)),U,U,?_⟩;rotate_left;have h7:=nF g7;refine Sk<|Sq<|Es<|Lv 2 U<|Lo (AQ U U (AA LJ D9 ct U)) U ?_;refine Lq (Ey U I1 D9 U U (by omega)) U ?_;refine Lo (AQ U U qW) U<|Lw U<|LR U g6<|Sx<|A0 U<|Sr<|qm U ?_;refine Lq (ka (b:=1) U (by omega)) U ?_;refine Lw U ?_;rotate_left;have h6:=dF g6;refine Nw U<|Tf U<|Sk<|Sq<|Es<|Lv 2 U<|Lo (AQ U U (AA LJ D9 ct U)) U ?_;refine Lq (Ey U I1 D9 U U (by omega)) U ?_;refine Lo (AQ U U qW) U<|Lw U<|Ib U g6<|Sk<|Es<|Lv 2 U<|Lo (kl U ct U) U<|Lv 1 U<|Lo (kl U ct U) U ?_;refine Lq (kM U (by omega)) U ?_;rotate_left;exact absurd h3 (by omega)
   .exact eu (yI.u XU (.inr (.inl h5)))
   .exact eu (yI.u XU (.inr (.inr (.inl ⟨h6,h7⟩))))
   .refine⟨(i+1,out,todo,_,_),⟨yI.A h eJ (by rw[hq];show r<=60;omega) (by rw[hq];exact h7),h,X2,hgr',hgt',n8,Nat.succ_pos _,nG,ew,eL,CU⟩,by show eE out*4001+(todo.length-(i+1))<eE out*4001+(todo.length-i);omega,U,U,Ab (by repeat' constructor)⟩
   .have ji:(zs out).set k (.int .i64 r)=zs (out.set k r):=yG;refine Hz (BL (s':=(((st.g (.J [.int .i64 0,.int .i64 0] 152 false)).z st.a (some (.J [.int .i64 (k:Nat),.int .i64 r] 152 false))).z b (some (.J (zs (out.set k r)) 3 true)))) U D9 U U (BH uD U U (by
     show over [AV.int .i64 r] (0+k*(0+1)) (zs out)=_;rw[GM rH,show 0+k*(0+1)=k by omega,ji]))) rfl rfl ?_
    have uS:1<=b:=jK b (Nat.beq_refl b);have hbbt:b≠bt:=fun e=>by
     have h1:=nG b (Nat.beq_refl b);have h2:Nat.beq bt b=true:=by rw[e];exact Nat.beq_refl _
     have h3:Nat.beq bt b=false:=h1;rw[h2]at h3;cases h3
    have Zx:∀d,d≠b->(((st.g (.J [.int .i64 0,.int .i64 0] 152 false)).z st.a (some (.J [.int .i64 (k:Nat),.int .i64 r] 152 false))).z b (some (.J (zs (out.set k r)) 3 true))).b.g d=((st.g (.J [.int .i64 0,.int .i64 0] 152 false)).z st.a (some (.J [.int .i64 (k:Nat),.int .i64 r] 152 false))).b.g d:=fun d hd=>by rw[Ah,if_neg hd]
    have hg0'':=(Zx 0 (by omega)).trans n8;have hc2'':=(Zx st.a (by omega)).trans ct;have oP:(((st.g (.J [.int .i64 0,.int .i64 0] 152 false)).z st.a (some (.J [.int .i64 (k:Nat),.int .i64 r] 152 false))).z b (some (.J (zs (out.set k r)) 3 true))).d=[]:=(Bv eL).trans CU;have hgt2:a_ (((st.g (.J [.int .i64 0,.int .i64 0] 152 false)).z st.a (some (.J [.int .i64 (k:Nat),.int .i64 r] 152 false))).z b (some (.J (zs (out.set k r)) 3 true))) 152 2 (.Z bt 0 todo.length (1+1) none) (todo.flatMap Y9) todo.length:=hgt'.CQ (Qj _) fun d hd=>Zx d (fun e=>by
     have h2:bt=d:=Qb hd;omega)
    have hgr2:a_ (((st.g (.J [.int .i64 0,.int .i64 0] 152 false)).z st.a (some (.J [.int .i64 (k:Nat),.int .i64 r] 152 false))).z b (some (.J (zs (out.set k r)) 3 true))) 3 1 (.Z b 0 c.a.length 1 none) (zs (out.set k r)) c.a.length:=ji▸a_.write hgr';have hbd3:(((st.g (.J [.int .i64 0,.int .i64 0] 152 false)).z st.a (some (.J [.int .i64 (k:Nat),.int .i64 r] 152 false))).z b (some (.J (zs (out.set k r)) 3 true))).c=0:=eL;have hn3:(((st.g (.J [.int .i64 0,.int .i64 0] 152 false)).z st.a (some (.J [.int .i64 (k:Nat),.int .i64 r] 152 false))).z b (some (.J (zs (out.set k r)) 3 true))).a=st.a+1:=hc7;generalize (((st.g (.J [.int .i64 0,.int .i64 0] 152 false)).z st.a (some (.J [.int .i64 (k:Nat),.int .i64 r] 152 false))).z b (some (.J (zs (out.set k r)) 3 true)))=XW at*
    focus
     refine Ld<|Es<|Lo (kL U hg0'' U) U<|Lv 1 U<|Lo (kl U hc2'' U) U<|Lv 1 U<|Lo (kl U hc2'' U) U ?_;refine Lo (kc U (hit_73 (by omega) (by omega) (by omega) (by omega))) U ?_;refine Lw U<|Sq<|Ew U ?_;refine Cn U (fun h7=>?_) (fun h7=>?_);refine Ew U ?_;refine Se ⟨.inl U,U,oP,hbd3,_,_,_,(Ac U (Ac U U)),U,U,?_⟩;rotate_left;refine Sk<|Sr<|Lv 2 U ?_;rotate_left
    .refine eu (yI.u XU (.inr (.inr (.inr ?_))));show XO (Y6 c k) r=false;rw[B2 mO];exact h7
    .have hm4:=T6 (n:=r) hc mO;rw[B2 mO]at hm4;have Xd:XO (Y6 c k) r=true:=by rw[B2 mO];exact h7
     have hus:=Tz (k:=k) (v:=r) (by omega) h6 mQ;refine MQ (VZ:=16) hgt2 hbd3 (Hd BE _) (by decide) (A3 (by omega) (by decide)) U U U U Ma Gi O6 LV U U U U U U U ?_;intro w3 Y7 hG3 ho3 hn4 hh3 pY qI;have hlog3:Y7.d=[]:=List.eq_nil_iff_forall_not_mem.2 fun c hc=>by have:=pY c hc;rw[oP]at this;cases this
     refine Lw U<|Sr<|qm U ?_;refine Lq (ka (b:=1) U (by omega)) U ?_;refine Lw U ?_;have hw:=Wl.B hc yI h eJ (by rw[hq];show r<=60;omega) (by rw[hq];exact h6) (by rw[hq];exact Xd);rw[hq]at hw;have hw:Wl c (out.set k r) (todo++Wc c k c.a[k] r) (i+1):=by rw[<-B2 mO];exact hw
     refine⟨(i+1,out.set k r,todo++Wc c k c.a[k] r,w3,Y7),⟨hw,?_,?_,?_,?_,?_,?_,?_,?_,qI,hlog3⟩,?_,U,U,Ab (by repeat' constructor)⟩
     .show i+1<=(todo++_).length;rw[Qm];omega
     .show(todo++Wc c k c.a[k] r).length+eE (out.set k r)*4000<=4004000;rw[Qm];omega
     .exact hgr2.CQ hn4 fun d hd=>hh3 d (hgr2.own hd) (nG d hd)
     .show a_ Y7 _ 2 w3 ((todo++_).flatMap Y9) (todo++_).length;rw[List.flatMap_append,Qm];exact hG3
     .exact(hh3 0 (by omega) (Jn fun ho=>by have:=ew 0 ho;omega)).trans hg0''
     .show 1<=Y7.a;omega
     .intro d hd;refine Jn fun ho=>?_;rcases ho3 d ho with ho|ho
      .rw[nG d hd]at ho;cases ho
      .have:=ah.own hd;omega
     .intro d hd;rcases ho3 d hd with ho|ho
      .exact ew d ho
      .omega
     .show eE (out.set k r)*4001+((todo++Wc c k c.a[k] r).length-(i+1))<eE out*4001+(todo.length-i)
      rw[Qm];omega
  .focus
    refine Sq<|Ew U ?_;refine Cd U (fun h3=>?_) (fun h3=>?_);refine Sk<|Sq<|Sb<|Es<|Lv 2 U ?_;refine Lq (kM U (by omega)) U ?_;refine Lo (AQ U U hlt1) U<|Lo (kz U) U<|Ln (kw U qw U) U<|Ld<|Sq<|Ad (by kernel_rfl)<|Nv 1 U<|Nm U ct U (.inl U) U<|Nv 1 U<|Nm U n8 U (.inl U) U<|Nv 3 U ?_;refine Dd U (fun h4=>?_) (fun h4=>?_);refine Nw U<|Tt U<|Ew U ?_;refine Se ⟨.inl U,U,CU,eL,_,_,_,(Ac U (Ac U U)),U,U,?_⟩;rotate_left;exact absurd h4 (by omega);exact absurd h3 (by omega)
   exact eu (yI.u XU (.inl (by show¬(k:Int)<_;omega)))
 .focus
   refine Sq<|Es<|Lv 2 U<|Lq (kn U hlen) U<|Lw U ?_;refine Cd U (fun h3=>?_) (fun h3=>?_);exact absurd h3 (by omega);refine Sx<|A0 U<|Ew U ?_;rotate_left
  obtain rfl:i=todo.length:=by omega
  have hsol:=yI.G;obtain⟨ks,hf,hu⟩:=ah.ret2 (G6 out) (MX out) true;refine Se ⟨.inl U,U,Yc,YH,_,_,ks,(Ac U (Ac U U)),hf,hu,?_⟩;unfold W4;rw[It hsol,<-yI.e]
theorem yJ (n:Nat) (hn:n<=4000):Co (EK O_) 160 [.int .u64 ((1:Nat):Int),.int .u64 (n:Nat)] S0 (.Y [.int .u64 0,.int .u64 (n:Nat)]):=by
 refine As U ?_;have a1:some (eV (fun _ x y=>x&&&y) .u64 ((1:Nat):Int) 4294967295)=some (.int .u64 ((1:Nat):Int)):=congrArg some (MM (n:=1) (by omega));have a2:some (eV (fun _ x y=>x&&&y) .u64 (n:Nat) 4294967295)=some (.int .u64 (n:Nat)):=congrArg some (MM (by omega));have a3:some (eV (fun _ x y=>x&&&y) .u64 ((0:Nat):Int) 4294967295)=some (.int .u64 ((0:Nat):Int)):=congrArg some (MM (n:=0) (by omega));have s1:lz .u64 ((1:Nat):Int) 32=some (.int .u64 ((0:Nat):Int)):=IW (n:=1) (by omega);have s2:lz .u64 (n:Nat) 32=some (.int .u64 ((0:Nat):Int)):=IW (by omega);have s3:lz .u64 ((0:Nat):Int) 32=some (.int .u64 ((0:Nat):Int)):=IW (n:=0) (by omega);have m1:some (Zf .u64 (((1:Nat):Int)*(n:Nat)))=some (.int .u64 (n:Nat)):=by rw[show((1:Nat):Int)*(n:Nat)=(n:Nat) by omega,QB (by omega) (by omega)]
 have m2:some (Zf .u64 (((0:Nat):Int)*(n:Nat)))=some (.int .u64 ((0:Nat):Int)):=by rw[show((0:Nat):Int)*(n:Nat)=((0:Nat):Int) by omega];rfl
 have m3:some (Zf .u64 (((1:Nat):Int)*((0:Nat):Int)))=some (.int .u64 ((0:Nat):Int)):=rfl;have m4:some (Zf .u64 (((0:Nat):Int)*((0:Nat):Int)))=some (.int .u64 ((0:Nat):Int)):=rfl;have p1:some (Zf .u64 (((0:Nat):Int)+((0:Nat):Int)))=some (.int .u64 ((0:Nat):Int)):=rfl;have e1:0*n+1*n/2^32=0:=by omega
 have a4:some (eV (fun _ x y=>x&&&y) .u64 ((0*n+1*n/2^32:Nat):Int) 4294967295)=some (.int .u64 ((0:Nat):Int)):=by rw[e1];exact a3
 refine Ew U<|Es<|qm U<|Lq (D6 U Fi U U U a1) U<|Lw U<|Es<|qm U<|Lq (MS U Fi U U p1) U<|Lw U<|Es<|qm U<|Lq (D6 U Fi U U U a2) U<|Lw U<|Es<|qm U<|Lq (MS U Fi U U s2) U ?_;refine Lw U<|Es<|Lv 2 U<|Lq (H2 (a:=1) U Fi U U U (by omega)) U<|Lw U<|Es<|Lv 2 U<|Lq (H2 (a:=0) U Fi U U U (by omega)) U<|qm U<|Lq (R9 (b:=32) U Fi U U (by decide)) U<|Lq (II U Fi U U U (by omega)) U<|Lw U<|Es<|qm U<|Lq (D6 U Fi U U U a4) U<|Lw U ?_;refine Es<|qm U<|Lq (R9 (b:=32) U Fi U U (by decide)) U<|Lw U<|Es<|Lv 3 U<|Lq (H2 (a:=1) (b:=0) U Fi U U U (by omega)) U<|Lq (II (a:=0) (b:=0) U Fi U U U (by omega)) U<|Lw U<|Es<|Lv 2 U<|Lq (H2 (a:=0) (b:=0) U Fi U U U (by omega)) U<|qm U<|Lq (II (a:=0) U Fi U U U (by omega)) U<|qm U<|Lq (MS U Fi U U p1) U ?_;refine Lq (II (b:=0) U Fi U U U (by omega)) U<|Lw U<|Es<|Lv 2 U<|Lq (H2 (a:=1) U Fi U U U (by omega)) U<|Lw U ?_;refine Se ⟨.inl U,U,U,U,_,_,_,(Ac U (Ac U U)),U,U,?_⟩
 show AV.Y [.int .u64 ((0+(0*n+1*n/2^32)/2^32+0:Nat):Int),.int .u64 ((1*n:Nat):Int)]=_;rw[e1,Nat.one_mul];rfl
abbrev ic:= {n:Nat//n<=4000}
noncomputable def K18a:=WA O_ 160 (fun n:ic=>[.int .u64 ((1:Nat):Int),.int .u64 (n.1:Nat)]) (fun n=> .Y [.int .u64 0,.int .u64 (n.1:Nat)])
theorem KL {a b:ic} (h:([.int .u64 ((1:Nat):Int),.int .u64 (a.1:Nat)]:List AV)=[.int .u64 ((1:Nat):Int),.int .u64 (b.1:Nat)]):a=b:=by
 simp only[List.cons.injEq,and_true,AV.int.injEq,true_and]at h;exact Subtype.ext (by omega)
theorem hit_160 {n:Nat} (h:n<=4000):K18a 160 [.int .u64 ((1:Nat):Int),.int .u64 (n:Nat)]=some (.Y [.int .u64 0,.int .u64 (n:Nat)]):=
 Ak (enc:=fun n:ic=>[.int .u64 ((1:Nat):Int),.int .u64 (n.1:Nat)]) (fun a b h=>by rw[KL h]) ⟨n,h⟩
theorem mul_to (n:Nat) (hn:n<=4000):Co (EK K18a) 119 [.int .u64 ((1:Nat):Int),.int .u64 (n:Nat)] S0 (.Y [.int .u64 0,.int .u64 (n:Nat)]):=by
 refine As U<|Ew U<|Sq<|Tf U<|Sk<|Es<|Lv 2 U ?_;refine Lo (kc U (hit_160 (by omega))) U ?_;refine Lw U<|Ew U ?_;refine Se ⟨.inl U,U,U,U,_,_,_,(Ac U (Ac U U)),U,U,?_⟩;rfl
noncomputable def K18:=WA K18a 119 (fun n:ic=>[.int .u64 ((1:Nat):Int),.int .u64 (n.1:Nat)]) (fun n=> .Y [.int .u64 0,.int .u64 (n.1:Nat)])
theorem hit_119 {n:Nat} (h:n<=4000):K18 119 [.int .u64 ((1:Nat):Int),.int .u64 (n:Nat)]=some (.Y [.int .u64 0,.int .u64 (n:Nat)]):=
 Ak (enc:=fun n:ic=>[.int .u64 ((1:Nat):Int),.int .u64 (n.1:Nat)]) (fun a b h=>by rw[KL h]) ⟨n,h⟩
theorem Gp (c:Cj):Cr 40 (W4 c)=true:=by
 unfold W4;cases WI c with
 |none=>rfl
 |some S=>unfold bH;dsimp only;cases Nat.beq S.length 0<;>rfl
theorem all18 (h:Wh Tryz.prog 10 [] (.bool true)):C6 Tryz.prog K18:=
 Aw Au (Aw Au (all17 h) (fun n:ic=>yJ n.1 n.2) (fun _=>rfl) (fun _=>rfl)) (fun n:ic=>mul_to n.1 n.2) (fun _=>rfl) (fun _=>rfl)
theorem yK (l:List Int):Co (EK K18) 342 [.O [Cq CN 1 l]] S0 .Ca:=by
 refine As U<|Eh U<|Ew U ?_;refine Se (Er U ?_);rfl
noncomputable def K18b:=WA K18 342 (fun l:List Int=>[.O [Cq CN 1 l]]) (fun _=> .Ca)
theorem hit_342:K18b 342 [.O [Cq CN 1 l]]=some .Ca:=
 Ak (fun _ _ _=>rfl) l
theorem yL:Co (EK K18b) 345 [.O []] S0 .Ca:=by
 refine As U<|Eh U<|Ew U ?_;refine Se (Er U ?_);rfl
noncomputable def K18c:=WA K18b 345 (fun _:Unit=>[.O []]) (fun _=> .Ca)
theorem hit_345:K18c 345 [.O []]=some .Ca:=
 Ak (fun _ _ _=>rfl) ()
theorem yM:Co (EK K18c) 346 [.O []] S0 .Ca:=by
 refine As U<|Eh U<|Ew U ?_;refine Se (Er U ?_);rfl
noncomputable def K18d:=WA K18c 346 (fun _:Unit=>[.O []]) (fun _=> .Ca)
theorem hit_346:K18d 346 [.O []]=some .Ca:=
 Ak (fun _ _ _=>rfl) ()
theorem yN (o n:Int) (l:List Int):Co (EK K18d) 343 [qg o n l] S0 (Cq CN 1 l):=by
 refine As U ?_;iterate 2 refine Eh U ?_
 refine Se (Er U ?_);all_goals rfl
noncomputable def RG:=WA K18d 343 (fun p:Int×Int×List Int=>[qg p.1 p.2.1 p.2.2]) (fun p=>Cq CN 1 p.2.2)
theorem hit_343 {o n:Int} :RG 343 [qg o n l]=some (Cq CN 1 l):=
 Ak (by
  rintro⟨a,b,c⟩ ⟨d,e,f⟩ h;simp only[List.cons.injEq,and_true,AV.O.injEq,qg,AV.int.injEq,true_and]at h;rw[h.2.2]) (o,n,l)
theorem all18e (h:Wh Tryz.prog 10 [] (.bool true)):C6 Tryz.prog RG:=
 Aw Au (Aw Au (Aw Au (Aw Au (all18 h) (fun l=>yK l) (fun _=>rfl) (fun _=>rfl)) (fun _=>yL) (fun _=>rfl) (fun _=>rfl)) (fun _=>yM) (fun _=>rfl) (fun _=>rfl))
  (fun p:Int×Int×List Int=>yN p.1 p.2.1 p.2.2) (fun _=>rfl) (fun _=>rfl)
def MR:Nat:=2^68
noncomputable abbrev ER:c_:=jL MR RG
def sQ (s:St) (v:AV) (l:List Int):Prop:=(v= .Ca/\l=[])\/∃b,v= .Z b 0 l.length 1 (some l.length)/\b<s.a/\s.b.g b=some (.J (zs l) 3 false)/\l≠ []
def YZ (n k:Nat):List AV:=zs (List.replicate k (-1)++List.replicate (n-k) 0)
theorem MY (a b:List Int):zs (a++b)=zs a++zs b:=List.map_append ..
theorem JG {n k:Nat} (h:k+m<=n):YZ n k=zs (List.replicate k (-1))++(zs (List.replicate m 0)++zs (List.replicate (n-k-m) 0)):=by
 unfold YZ;rw[MY,<-MY (List.replicate m 0),List.replicate_append_replicate,show m+(n-k-m)=n-k by omega]
theorem Lr {n k:Nat} :zs (List.replicate k (-1))++(zs (List.replicate m (-1))++zs (List.replicate (n-k-m) 0))=YZ n (k+m):=by
 unfold YZ;rw[<-List.append_assoc,<-MY,<-MY,List.replicate_append_replicate,Nat.sub_sub]
theorem Sh {b n:Nat} (hg:st.b.g b=some (.J [.int .i64 (-1)] 3 false)) (hb:b<st.a) (hn:n<=4000) 
 (hR:∀Yk v,sQ Yk v (List.replicate n (-1))->(∀d,CB d v=true->st.a<=d)->CL st Yk (fun _=>False)->R v Yk):Wm ER 68 [.Z b 0 1 1 (some 1),.int .i64 (n:Nat)] st R:=by
 refine Wm.gen (fn:=Tryz.f68) U (by kernel_rfl) U U U U ?_;focus
  refine Ew U<|Sq<|Ew U<|Tf U<|Sk<|Es<|Lv 2 U<|Lq (OT U ey xS U ⟨by omega,by omega⟩) U<|qm U<|Lq (OT U ey xS U ⟨by omega,by omega⟩) U ?_;refine Lo (kc U (hit_119 (by omega))) U ?_;refine Lw U<|Sq<|Ew U ?_;refine Cd U (fun h1=>?_) (fun h1=>?_);exact absurd h1 (by omega);refine Sk<|Es<|qm U<|Lq (VS U xS ey U ⟨by omega,by omega⟩) U ?_;rotate_left
 by_cases h0:n=0
 .subst h0;refine Lq (Dn U I1 D9 u4 qZ U U U) U<|Lw U<|Es<|Lv 2 U ?_;have kB:st.u.b.g b=some (.J ([]++([.int .i64 (-1)]++[])) 3 false):=hg;refine Lo (MW U U U U I1 D9 U U (G2 kB U U) U) U<|Lw U<|Sq<|Sb<|A2<|Sq<|Ew U<|Tf U<|Sx<|A0 U<|Ew U<|Se ?_;exact⟨.inl U,_,rfl,_,Ac U U,_,Di (fun _ _=>rfl) (fun _=>rfl) U,hR st _ (.inl ⟨rfl,rfl⟩) (fun d h=>by cases h) CL.A⟩
 refine Lo (D8 U I1 D9 u4 qZ U U U h0 (A3 (by omega) (by decide))) U ?_;have hz:Xj (AV.int .i64 0).g n=YZ n 0:=by
  show Xj [AV.int .i64 0] n=_;rw[KQ];unfold YZ zs;simp
 rw[hz];have XV:=Ax (st:=st.u) (ob:= .J (YZ n 0) 3 false);have hold:=fun c hc=>Ap (st:=st.u) (ob:= .J (YZ n 0) 3 false) (c:=c) hc;have dt:(st.u.g (.J (YZ n 0) 3 false)).c=st.a:=rfl;have dC:(st.u.g (.J (YZ n 0) 3 false)).d=[]:=rfl;have sk:(st.u.g (.J (YZ n 0) 3 false)).a=st.a+1:=rfl;generalize st.u.g (.J (YZ n 0) 3 false)=XC at*;refine Lw U<|Es<|Lv 2 U ?_;have Yw:XC.b.g b=some (.J ([]++([.int .i64 (-1)]++[])) 3 false):=(hold b hb).trans hg;have hnew0:XC.b.g st.a=some (.J ([]++(zs (List.replicate 1 0)++zs (List.replicate (n-0-1) 0))) 3 false):=by
  have:=JG (n:=n) (k:=0) (m:=1) (by omega);rw[<-show YZ n 0=[]++(zs (List.replicate 1 0)++zs (List.replicate (n-0-1) 0))from this];exact XV
 have hcp:=V0 (s:=XC) (len:=n) (cap:=some n) (m:=1) (src:=[.int .i64 (-1)]) hnew0 rfl (show 1=min 1 n by omega) rfl;refine Lo (MW U U U U I1 D9 U U (G2 Yw U U) hcp) U ?_;have ZL:st.u.a=st.a:=rfl;have e1:([]++(List.take 1 [AV.int .i64 (-1)]++zs (List.replicate (n-0-1) 0)))=YZ n 1:=Lr (n:=n) (k:=0) (m:=1);rw[e1];have gK:(XC.z st.a (some (.J (YZ n 1) 3 false))).d=[]:=by
  show(bif Nat.blt st.a XC.c then _ else XC.d)=[]
  rw[dt];have:Nat.blt st.a st.a=false:=by
   cases hb:Nat.blt st.a st.a with
   |false=>rfl
   |true=>have:st.a<st.a:=Qc hb;omega
  rw[this];exact dC
 refine Lw U<|Sq<|Sb ?_;refine Ai (fun y:Nat×St=>([(8,.int .i64 (y.1:Nat)),(7,.Z st.a 0 n 1 (some n))],y.2)) (fun y=>n-y.1)
  (fun y=>1<=y.1/\y.1<=n/\y.2.b.g st.a=some (.J (YZ n y.1) 3 false)/\(∀c,c<st.a->y.2.b.g c=st.b.g c)/\y.2.a=st.a+1/\y.2.c=st.a/\y.2.d=[])
  (1,XC.z st.a (some (.J (YZ n 1) 3 false))) ⟨Qj _,by show 1<=n;omega,by rw[Ah,if_pos rfl],fun c hc=>by rw[Ah,if_neg (by omega)];exact hold c hc,sk,dt,gK⟩ rfl (Ab (by repeat' constructor)) ?_
 clear XV hold dt dC sk Yw hnew0 hcp gK;rintro⟨k,XW⟩ ⟨fp,mO,iu,hold,dx,dD,gK⟩;dsimp only at fp mO iu hold dx dD gK|-;by_cases h:k<n
 .have rJ:(zs (List.replicate k (-1))).length=k:=by rw[IK,List.length_replicate]
  have uP:k+min k (n-k)<=n:=by omega
  have hgA:(XW.B XW.b).b.g st.a=some (.J ([]++(zs (List.replicate k (-1))++zs (List.replicate (n-k) 0))) 3 false):=by
   show XW.b.g st.a=_;rw[iu];unfold YZ;rw[MY];rfl
  have hgB:(XW.B XW.b).b.g st.a=some (.J (zs (List.replicate k (-1))++(zs (List.replicate (min k (n-k)) 0)++zs (List.replicate (n-k-min k (n-k)) 0))) 3 false):=by
   show XW.b.g st.a=_;rw[iu,JG uP]
  have hap:CY (XW.B XW.b) 1 (.Z st.a 0 k 1 (some n))=some (zs (List.replicate k (-1)),(zs (List.replicate k (-1))).length):=by
   rw[rJ];exact G2 hgA rfl rJ.symm
  have hcp:=V0 (s:=XW.B XW.b) (off:=k) (len:=n-k) (cap:=some (n-k)) (m:=min k (n-k)) (src:=zs (List.replicate k (-1))) hgB rJ.symm (by rw[rJ]) (by rw[IK,List.length_replicate]);have htk:(zs (List.replicate k (-1))).take (min k (n-k))=zs (List.replicate (min k (n-k)) (-1)):=by
   unfold zs;rw[<-List.map_take,List.take_replicate,Nat.min_eq_left (Nat.min_le_left _ _)]
  rw[htk,Lr]at hcp;have C5:st.a<XW.a:=by omega
  obtain⟨mg,mn,mb,ml⟩:=S8 (st:=XW) (ob:= .J (YZ n (k+min k (n-k))) 3 false) C5;focus
   refine Sq<|Ew U ?_;refine Cd U (fun h2=>?_) (fun h2=>?_);refine Sk<|Sb<|AK (by kernel_rfl)<|Nv 3 U ?_;rotate_left;exact absurd h2 (by omega)
  refine Ki U I1 D9 U U U U (fun s' hs=>RS (hs.trans iu) h) U (.inl U) U U<|Nv 2 U<|Ki U I1 D9 U U U U (fun s' hs=>xJ (hs.trans iu) mO h0) U (.inl U) U U ?_;refine SX U U U U I1 D9 U U hap hcp C5 (by kernel_rfl) U (.inl U) U U fun dA=>?_;generalize XW.A ((XW.B XW.b).z st.a (some (.J (YZ n (k+min k (n-k))) 3 false)))=Y7 at*;refine Nq (ka U (by omega)) U ?_;refine Nw U ?_;refine⟨(k+min k (n-k),Y7),⟨by show 1<=k+_;omega,uP,by rw[mg,if_pos rfl],fun c hc=>by rw[mg,if_neg (by omega)];exact hold c hc,mn.trans dx,mb.trans dD,?_⟩,by show n-(k+min k (n-k))<n-k;omega,rfl,rfl,Ab (by repeat' constructor)⟩;refine List.eq_nil_iff_forall_not_mem.2 fun c hc=>?_;rcases ml c hc with h|⟨h1,h2⟩
  .rw[gK]at h;cases h
  .omega
 .obtain rfl:k=n:=by omega
  focus
   refine Sq<|Ew U ?_;refine Cd U (fun h2=>?_) (fun h2=>?_);exact absurd h2 (by omega);refine Sx<|A0 U<|Ew U ?_;rotate_left
  refine Se ?_;have hhalf:YZ k k=zs (List.replicate k (-1)):=by unfold YZ;rw[Nat.sub_self,List.replicate_zero,List.append_nil]
  have hlen:(List.replicate k (-1:Int)).length=k:=List.length_replicate;refine⟨.inl U,XW,rfl,_,Ac U U,_,UB (f:=68) U gK ?_,hR _ _ (.inr ⟨st.a,?_,?_,?_,?_⟩) (fun d hd=>Nat.le_of_eq (Qb hd)) ?_⟩
  .show Nat.blt st.a st.a=false;cases hb:Nat.blt st.a st.a with
   |false=>rfl
   |true=>have:st.a<st.a:=Qc hb;omega
  .rw[hlen];rfl
  .show st.a<XW.a;omega
  .rw[<-hhalf];exact iu
  .intro h;have:=congrArg List.length h;rw[hlen]at this;exact h0 this
  .exact⟨by show st.a<=XW.a;omega,rfl,fun c hc=>by
    have tO:c∈below st.c XW.d st.d:=hc;rw[gK]at tO;exact .inl tO,fun c hc _=>hold c hc⟩
def XX (out:List Int) (k:Nat) (r:Int):Bool:=decide ((out.length:Int)<=(k:Nat))||((decide (0<=oA out k)&& !decide (oA out k=r))||decide (60<r))
theorem Ub {b4:Nat} {v:AV} {out:List Int} (hg4:st.b.g b4=some (.J [v] 26 false)) (ho:sQ st v out) (hl:out.length<=4000) (k:Nat) (r:Int) (hF:XX out k r=true->R (.bool false) st)
 (hT:XX out k r=false->∀Yk,sQ Yk v (out.set k r)->CL st Yk (fun c=>CB c v=true)->Yk.a=st.a->((∀d,CB d v=true->d<st.c)->Yk.d≠ [])->(∀c,c<st.c->c∉Yk.d->Yk.b.g c=st.b.g c)->R (.bool true) Yk):Wm ER 69 [.int .i64 (k:Nat),.int .i64 r,.J b4 0] st R:=by
 refine Wm.gen (fn:=Tryz.f69) U (by kernel_rfl) U U U U ?_;have uE:st.u.b.g b4=some (.J [v] 26 false):=hg4;have hlen:Am.aQ v=some (.int .i64 (out.length:Nat)):=by
  rcases ho with⟨rfl,rfl⟩|⟨b,rfl,_⟩<;>rfl
 by_cases hk:k<out.length
 .rcases ho with⟨_,rfl⟩|⟨b,rfl,hb,sr,Yh⟩
  .cases hk
  have uD:st.u.b.g b=some (.J (zs out) 3 false):=sr;have rH:0+k*(0+1)<(zs out).length:=by rw[IK];omega
  have ji:(zs out).set k (.int .i64 r)=zs (out.set k r):=yG;have qW:Wq ER 3 st.u (.J b (0+k*(0+1)))=some (.int .i64 (oA out k)):=
   AA LJ D9 uD (by rw[Nat.zero_add,Nat.mul_one];exact yF hk)
  have YM:XX out k r=false->R (.bool true) (st.G (st.u.z b (some (.J (zs (out.set k r)) 3 false)))):=fun h=>
   hT h _ (.inr ⟨b,by rw[List.length_set],hb,by
    show(st.u.z b _).b.g b=_;rw[Ah,if_pos rfl],by
    intro e;exact Yh (by simpa using congrArg List.length e)⟩) ⟨Qj _,rfl,fun c hc=>by
    rcases Ds (show c∈below st.c (st.u.z b _).d st.d from hc)with h|⟨h,h2⟩
    .exact .inl h
    .rcases BP h with h|⟨rfl,_⟩
     .cases h
     .exact .inr ⟨h2,Nat.beq_refl _⟩,fun c hc ho=>by
    show(st.u.z b _).b.g c=_;rw[Ah,if_neg (fun e=>ho (by rw[e];exact Nat.beq_refl b))];rfl⟩ rfl (fun h=>VF (AL hb) (h b (Nat.beq_refl b))) fun c hc Xo=>by
    show(st.u.z b _).b.g c=_;rw[Ah];split
    .next e=>
     subst e;exact absurd (BV (n:=st.c) (l:=st.d) (AL (s:=st.u) hb) hc) Xo
    .rfl
  focus
   refine Ew U<|Sq<|Es<|qm U<|Lo (kl U uE U) U<|Lv 3 U ?_;refine Bd U (fun h1=>?_) (fun h1=>?_);exact absurd h1 (by omega);refine Lg U U (kl U uE U)<|Lv 1 U ?_;refine Lh U U (kM U (by omega)) ?_;refine Lg U U (AQ U U qW)<|Lv 2 U ?_;refine Bd U (fun h2=>?_) (fun h2=>?_);refine Lg U U (kl U uE U)<|Lv 1 U ?_;refine Lh U U (kM U (by omega)) ?_;refine Lg U U (AQ U U qW)<|Lv 5 U ?_;refine Be U (fun h3=>?_) (fun h3=>?_);refine Lw U<|Tt U<|Ew U ?_;rotate_left;refine Lw U ?_;refine Cd U (fun h4=>?_) (fun h4=>?_);refine Ew U ?_;rotate_left;refine Sk<|Es<|Lo (kl U uE U) U<|Lv 2 U ?_;refine Lq (kM U (by omega)) U ?_;rotate_left;refine Lw U ?_;refine Cd U (fun h5=>?_) (fun h5=>?_);refine Ew U ?_;rotate_left;refine Sk<|Es<|Lo (kl U uE U) U<|Lv 2 U ?_;refine Lq (kM U (by omega)) U ?_;rotate_left
  .refine Se ?_;exact⟨.inl U,_,rfl,_,Ac U U,_,Di (fun _ _=>rfl) (fun _=>rfl) U,hF (by unfold XX;simp[h2,h3])⟩
  .refine Se ?_;exact⟨.inl U,_,rfl,_,Ac U U,_,Di (fun _ _=>rfl) (fun _=>rfl) U,hF (by unfold XX;simp[h4])⟩
  .refine Hz (BL (s':=st.u.z b (some (.J (zs (out.set k r)) 3 false))) U D9 U U (BH uD U U (by
    show over [AV.int .i64 r] (0+k*(0+1)) (zs out)=_;rw[GM rH,show 0+k*(0+1)=k by omega,ji]))) rfl rfl ?_
   refine Ld<|Ew U<|Se ?_;exact⟨.inl U,_,U,_,Ac U U,_,Dt U (HC hb),YM (by unfold XX;simp[h1,h3,h4])⟩
  .refine Se ?_;exact⟨.inl U,_,rfl,_,Ac U U,_,Di (fun _ _=>rfl) (fun _=>rfl) U,hF (by unfold XX;simp[h5])⟩
  .refine Hz (BL (s':=st.u.z b (some (.J (zs (out.set k r)) 3 false))) U D9 U U (BH uD U U (by
    show over [AV.int .i64 r] (0+k*(0+1)) (zs out)=_;rw[GM rH,show 0+k*(0+1)=k by omega,ji]))) rfl rfl ?_
   refine Ld<|Ew U<|Se ?_;exact⟨.inl U,_,U,_,Ac U U,_,Dt U (HC hb),YM (by unfold XX;simp[h1,h2,h5])⟩
 .focus
   refine Ew U<|Sq<|Es<|qm U<|Lo (kl U uE U) U<|Lq (kn U hlen) U<|Lv 2 U ?_;refine Bd U (fun h1=>?_) (fun h1=>?_);refine Lw U<|Tt U<|Ew U ?_;rotate_left;exact absurd h1 (by omega)
  refine Se ?_;exact⟨.inl U,_,rfl,_,Ac U U,_,Di (fun _ _=>rfl) (fun _=>rfl) U,hF (by unfold XX;simp[h1])⟩
def R2 (c:Cj) (p:WL):Prop:=∀S,oN c S->p.1<c.a.length/\p.2<=60/\oA S p.1.toNat=p.2
structure Fw (c:Cj) (out:List Int):Prop where
 d:out.length=c.a.length
 e:∀a,oA out a= -1\/(0<=oA out a/\oA out a<=60)
 b:∀S,oN c S->∀a,0<=oA out a->oA S a=oA out a
 i:∀a,a<c.a.length->0<=oA out a->(∃f,f<c.d.length/\(c.d.getD f 0).toNat=a)\/∃j,j<a/\0<=oA out j/\∃p∈Wc c j (Y6 c j) (oA out j),p.1.toNat=a
def From (c:Cj) (out:List Int) (p:WL):Prop:=(∃f,f<c.d.length/\(c.d.getD f 0).toNat=p.1.toNat)\/∃j,j<p.1.toNat/\0<=oA out j/\p∈Wc c j (Y6 c j) (oA out j)
def oQ (c:Cj) (out:List Int) (p:WL):Prop:=p.1<c.a.length/\p.2<=60/\oA out p.1.toNat=p.2
theorem Eg {out:List Int} {k:Nat} (h:XX out k r=false):k<out.length/\(0<=oA out k->oA out k=r)/\r<=60:=by
 unfold XX at h;rw[Bool.or_eq_false_iff,Bool.or_eq_false_iff,decide_eq_false_iff_not,decide_eq_false_iff_not]at h;obtain⟨h1,h2,h3⟩:=h;refine⟨by omega,fun h0=>?_,by omega⟩;rw[decide_eq_true h0,Bool.true_and,Bool.not_eq_false',decide_eq_true_eq]at h2;exact h2
theorem HB {out:List Int} {k:Nat} (h:XX out k r=false) (a:Nat) (ha:0<=oA out a):oA (out.set k r) a=oA out a:=by
 obtain⟨h1,h2,_⟩:=Eg h;rw[Ik h1];split
 .grind
 .rfl
theorem Fw.g (c:Cj):Fw c (List.replicate c.a.length (-1)) where
 d:=List.length_replicate
 e:=fun a=> .inl (Jm _ a)
 b:=fun S _ a h=>by rw[Jm]at h;omega
 i:=fun a _ h=>by rw[Jm]at h;omega
theorem Fw.u {c:Cj} {out:List Int} (h:Fw c out) (h0:0<=p.1) (hg:R2 c p) (hb:XX out p.1.toNat p.2=true):WI c=none:=
 FB fun S hS=>by
  obtain⟨g1,g2,g3⟩:=hg S hS;have hl:=h.d;unfold XX at hb;rw[Bool.or_eq_true,Bool.or_eq_true,decide_eq_true_eq,decide_eq_true_eq,Qf,decide_eq_true_eq,Bool.not_eq_true',decide_eq_false_iff_not]at hb;rcases hb with hb|⟨dt,dD⟩|hb
  .omega
  .exact dD ((h.b S hS _ dt).symm.trans g3)
  .omega
theorem Fw.z {c:Cj} {out:List Int} (h:Fw c out) (ow:0<=p.2) (hg:R2 c p) (hf:From c out p) (hb:XX out p.1.toNat p.2=false):Fw c (out.set p.1.toNat p.2):=by
 obtain⟨k1,k2,k3⟩:=Eg hb;have CQ:=HB hb;refine⟨by rw[List.length_set];exact h.d,fun a=>?_,fun S hS a ha=>?_,fun a ha h0=>?_⟩
 .rw[Ik k1];split
  .exact .inr ⟨ow,k3⟩
  .exact h.e a
 .rw[Ik k1]at ha|-;split at ha
  .next e=>subst e;rw[if_pos rfl];exact(hg S hS).2.2
  .next e=>rw[if_neg e];exact h.b S hS a ha
 .rw[Ik k1]at h0;split at h0
  .next e=>
   subst e;rcases hf with w|⟨j,j1,j2,j3⟩
   .exact .inl w
   .grind
  .rcases h.i a ha h0 with w|⟨j,j1,j2,q,j3,j4⟩
   .exact .inl w
   .grind
theorem oQ.CQ {c:Cj} {out:List Int} {q:WL} (h:oQ c out q) (hq:0<=q.2) {k:Nat} (hb:XX out k r=false):oQ c (out.set k r) q:=
 ⟨h.1,h.2.1,by rw[HB hb _ (by rw[h.2.2];exact hq)];exact h.2.2⟩
theorem Rx {c:Cj} {out:List Int} (hl:out.length=c.a.length) (h0:0<=p.1) (hb:XX out p.1.toNat p.2=false):oQ c (out.set p.1.toNat p.2) p:=by
 obtain⟨k1,k2,k3⟩:=Eg hb;exact⟨by omega,k3,by rw[Ik k1,if_pos rfl]⟩
def fW (c:Cj) (out:List Int) (m:Nat):Prop:=∀f,f<m->f<c.d.length->oA out (c.d.getD f 0).toNat=g_ c.c f
theorem fW.CQ {c:Cj} (hc:ZT c) {out:List Int} (h:fW c out m) {k:Nat} (hb:XX out k r=false):fW c (out.set k r) m:=fun f h1 h2=>by
 have:=Ga hc.B f;rw[HB hb _ (by rw[h f h1 h2];exact this.1)];exact h f h1 h2
theorem RO {c:Cj} (hc:ZT c) (hf:f<c.d.length):R2 c (c.d.getD f 0,g_ c.c f):=fun S hS=>by
 have h1:=hc.u hf;rw[<-Ao (d:=0) hf]at h1;have h2:=Ga hc.B f;exact⟨h1.2,by show g_ c.c f<=60;omega,hS.b f hf⟩
def Cl (c:Cj) (out:List Int) (k:Nat):Prop:=∀a,a<k->a<c.a.length->0<=oA out a->XO (Y6 c a) (oA out a)=true/\∀p∈Wc c a (Y6 c a) (oA out a),oQ c out p
structure Mn (c:Cj) (out:List Int) (k:Nat):Prop where
 a:Fw c out
 d:fW c out c.d.length
 b:Cl c out k
structure vf (c:Cj) (k:Nat) (n0:Int) (j:Nat) (out:List Int):Prop where
 d:Fw c out
 st:fW c out c.d.length
 e:Cl c out k
 a:oA out k=n0
 b:∀i,i<j->∀(h:i<(Wc c k (Y6 c k) n0).length),oQ c out (Wc c k (Y6 c k) n0)[i]
theorem Mn.z {c:Cj} {out:List Int} {k:Nat} (h:Mn c out k):vf c k (oA out k) 0 out:=⟨h.a,h.d,h.b,rfl,fun i hi=>absurd hi (Nat.not_lt_zero _)⟩
theorem Mn.u {c:Cj} {out:List Int} {k:Nat} (h:Mn c out k) (hk:¬0<=oA out k):Mn c out (k+1):=⟨h.a,h.d,fun a ha hl h0=>by
 rcases Nat.lt_or_ge a k with C5|dq
 .exact h.b a C5 hl h0
 .obtain rfl:a=k:=by omega
  exact absurd h0 hk⟩
theorem Mn.g {c:Cj} {out:List Int} {k:Nat} (h:Mn c out k) (hk:k<c.a.length) (h0:0<=oA out k) (hs:XO (Y6 c k) (oA out k)=false):WI c=none:=
 FB fun S hS=>by
  have e:=h.a.b S hS k h0;have:=hS.a k hk (by rw[e];exact h0);rw[e,hs]at this;cases this
theorem Mn.A {c:Cj} {out:List Int} (h:Mn c out c.a.length):oN c out where
 e:=h.a.d
 g:=fun a=>(h.a.e a).imp id And.left
 b:=fun f hf=>h.d f hf hf
 a:=fun i hi h0=>(h.b i hi hi h0).1
 d:=fun i hi h0 p hp=>(h.b i hi hi h0).2 p hp
 k:=h.a.i
section
variable {c : Cj} {k j : Nat} {n0 : Int} {out : List Int}
theorem PB (hc:ZT c) (hk:k<c.a.length) (hn:0<=n0) (hp:p∈Wc c k (Y6 c k) n0):(k:Int)<p.1/\p.1<=c.a.length/\0<=p.2:=
 Fj hc (by rw[B2 hk];exact hc.g hk) hk hn hp
theorem vf.g (h:vf c k n0 j out) (hk:k<c.a.length) (hn:0<=n0) (hp:p∈Wc c k (Y6 c k) n0):R2 c p:=fun S hS=>by
 have e:=h.d.b S hS k (by rw[h.a];exact hn);rw[h.a]at e;exact hS.d k hk (by rw[e];exact hn) p (by rw[e];exact hp)
theorem vf.z (h:vf c k n0 j out) (hc:ZT c) (hk:k<c.a.length) (hn:0<=n0) (hp:p∈Wc c k (Y6 c k) n0) (hb:XX out p.1.toNat p.2=true):WI c=none:=by
 have:=PB hc hk hn hp;exact h.d.u (by omega) (h.g hk hn hp) hb
theorem vf.u (h:vf c k n0 j out) (hc:ZT c) (hk:k<c.a.length) (hn:0<=n0) (hj:j<(Wc c k (Y6 c k) n0).length) (hb:XX out (Wc c k (Y6 c k) n0)[j].1.toNat (Wc c k (Y6 c k) n0)[j].2=false):
 vf c k n0 (j+1) (out.set (Wc c k (Y6 c k) n0)[j].1.toNat (Wc c k (Y6 c k) n0)[j].2):=by
 have hm:=Ql hj;have zA:=fun q hq=>PB (p:=q) hc hk hn hq;have hdone:=h.b;generalize hL:Wc c k (Y6 c k) n0=L at*;generalize hp:L[j]=p at*;obtain⟨m1,m2,m3⟩:=zA p hm;obtain⟨k1,k2,k3⟩:=Eg hb;refine⟨h.d.z m3 (h.g hk hn (by rw[hL];exact hm)) (.inr ⟨k,by omega,by rw[h.a];exact hn,by rw[h.a,hL];exact hm⟩) hb,h.st.CQ hc hb,fun a ha hl h0=>?_,?_,fun i hi hl=>?_⟩
 .have ne:a≠p.1.toNat:=by omega
  rw[Ik k1,if_neg ne]at h0|-;exact⟨(h.e a ha hl h0).1,fun q hq=>((h.e a ha hl h0).2 q hq).CQ (PB hc hl h0 hq).2.2 hb⟩
 .rw[Ik k1,if_neg (by omega)];exact h.a
 .rw[hL]at hl;simp only[hL];rcases Nat.lt_or_ge i j with C5|dq
  .exact(hdone i C5 hl).CQ (zA _ (Ql hl)).2.2 hb
  .obtain rfl:i=j:=by omega
   rw[hp];exact Rx h.d.d (by omega) hb
theorem vf.A (h:vf c k n0 (Wc c k (Y6 c k) n0).length out) (hs:XO (Y6 c k) n0=true):Mn c out (k+1):=⟨h.d,h.st,fun a ha hl h0=>by
 rcases Nat.lt_or_ge a k with C5|dq
 .exact h.e a C5 hl h0
 .obtain rfl:a=k:=by omega
  rw[h.a];refine⟨hs,fun p hp=>?_⟩;obtain⟨i,hi,rfl⟩:=List.mem_iff_getElem.1 hp;exact h.b i hi hi⟩
end
theorem FG {x:X8}:(∀r l,CO x= .Y r l->x.op=1/\r=x.a/\l=x.b)/\(∀l,CO x= .Z l->x.op=2/\l=x.d)/\(CO x= .mv->x.op=3)/\(CO x= .kt->x.op=4)/\
 (∀o n l,CO x= .O o n l->x.op=5/\l=x.args)/\(∀r,CO x= .J r->x.op=6/\r=x.a):=by
 unfold CO;by_cases h1:yd x=true
 .simp_all [Qf,yd]
 rw[if_neg h1];by_cases h2:u9 x=true
 .simp_all [Qf,u9]
 rw[if_neg h2];by_cases h3:sN x=true
 .simp_all [Qf,sN]
 rw[if_neg h3];by_cases h4:sO x=true
 .simp_all [Qf,sO]
 rw[if_neg h4];by_cases h5:uA x=true
 .simp_all [Qf,uA]
 rw[if_neg h5];by_cases h6:uB x=true
 .simp_all [Qf,uB]
 rw[if_neg h6];refine⟨?_,?_,?_,?_,?_,?_⟩<;>intros<;>contradiction
def succS (c:Cj) (k:Nat) (n:Int):ShT->List WL
 | .Y _ l=>l.map fun a=>(a.2,n+g_ c.b a.1)
 | .Z l=>l.map fun t=>(t,n)
 | .kt=>[(((k+1:Nat):Int),n+1)]
 | .O _ _ _=>[(((k+1:Nat):Int),n+1)]
 |_=>[]
theorem Pg {c:Cj} {k:Nat} {x:X8} {n:Int} (hi:YO c k x=true):Wc c k x n=succS c k n (CO x):=by
 have hs:=AY c k x;rw[hi]at hs;obtain⟨h1,h2,h3,h4,h5,h6⟩:=FG (x:=x);unfold Wc;rcases h:CO x with⟨r,l⟩|l|_|_|⟨o,n',l⟩|r|_
 .obtain⟨e,_,rfl⟩:=h1 r l h;rw[if_pos e];rfl
 .obtain⟨e,rfl⟩:=h2 l h;rw[if_neg (by omega),if_pos e];rfl
 .have e:=h3 h;rw[if_neg (by omega),if_neg (by omega),if_neg (by omega)];rfl
 .have e:=h4 h;rw[if_neg (by omega),if_neg (by omega),if_pos (by omega)];rfl
 .obtain⟨e,_⟩:=h5 _ _ _ h;rw[if_neg (by omega),if_neg (by omega),if_pos (by omega)];rfl
 .obtain⟨e,_⟩:=h6 r h;rw[if_neg (by omega),if_neg (by omega),if_neg (by omega)];rfl
 .rw[h]at hs;cases hs
structure ie (c:Cj) (k:Nat) (n0:Int) (b bc ba br:Nat) (s:St) (L:List WL) (C:Nat->Nat->Tr CG->Prop) (D:Nat->Tr CG->Prop):Prop where
 f:C 0 s.a s.b
 a:∀j n h n' h',C j n h->n<=n'->(∀d,d<n->h'.g d=h.g d)->C j n' h'
 i:∀n h n' h',D n h->n<=n'->(∀d,d<n->h'.g d=h.g d)->D n' h'
 e:∀j n h,C j n h->h.g bc=some (.J (CJ c) 28 false)/\h.g ba=some (.J [.int .i64 (k:Nat)] 3 false)/\h.g br=some (.J [.int .i64 n0] 3 false)
 l:∀j (hj:j<L.length) (st:St),s.a<=st.c->st.c<=st.a->C j st.a st.b->C_ ER b [.int .i64 L[j].1,.int .i64 L[j].2] st fun v s'=>st.a<=s'.a/\s'.c=st.c/\b∈s'.d/\(∀d∈s'.d,d∈st.d\/d<st.c)/\
  (∀d,d<st.c->d∉s'.d->s'.b.g d=st.b.g d)/\(v=true->C (j+1) s'.a s'.b)/\(v=false->D s'.a s'.b)
 m:b<s.a
def nH (s:St) (L:List WL) (C:Nat->Nat->Tr CG->Prop) (D:Nat->Tr CG->Prop):AV->St->Prop:=fun _ s3=>s3.c=s.c/\(s3.d=s.d\/∃M,s3.d=below s.c M s.d)/\s.a<=s3.a/\(C L.length s3.a s3.b\/D s3.a s3.b)
section
variable {c : Cj} {k : Nat} {n0 : Int} {b bc ba br : Nat} {s : St} {C : Nat -> Nat -> Tr CG -> Prop} {D : Nat -> Tr CG -> Prop} {L : List WL}
theorem ie.g (st:St) (h1:s.a<=st.a) (h:C L.length st.a st.b\/D st.a st.b):nH s L C D (.Y []) (s.G st):=⟨rfl,.inr ⟨_,rfl⟩,h1,h⟩
theorem ie.u (H:ie c k n0 b bc ba br s L C D) (hL:L.length=0):nH s L C D (.Y []) s:=⟨rfl,.inl rfl,Qj _,.inl (by rw[hL];exact H.f)⟩
theorem yO (hc:ZT c) (hk:k<c.a.length) (l:List Int) (hs:CO c.a[k]= .Z l) (H:ie c k n0 b bc ba br s (l.map fun t=>(t,n0)) C D):
 Wm ER 121 [.an (.yield b) [] [],.J bc 0,.J ba 0,.J br 0] s (nH s (l.map fun t=>(t,n0)) C D):=by
 refine Wm.unit (fn:=Tryz.f121) U (by kernel_rfl) U U U U ?_;have Z4:=Af A8 hk;obtain⟨er,dt,_⟩:=H.e 0 _ _ H.f;have hb0':s.u.b.g bc=some (.J (CJ c) 28 false):=er;have yP:s.u.b.g ba=some (.J [.int .i64 (k:Nat)] 3 false):=dt;have oG:=hc.a.f _ (Ql hk);have dC:=hc.I;generalize hx:c.a[k]=x at*;refine Es<|Lv 1 U ?_;iterate 2 refine Lo (kl U ‹_› U) U ?_
 refine Lq (kv U Z4) U<|Lv 1 U ?_;refine Lo (kc U (Br)) U<|Ld<|Sb ?_;rw[hs];obtain rfl:=KM hs;generalize x.d=l at*;have hlen:(l.map fun t=>((t,n0):WL)).length=l.length:=Qn ..;obtain⟨qw,ct,hc3,q8,yb,uZ,hc7⟩:=AU (st:=s.u) (z:=[.Ca]) (cs:=[Cq CN 1 l]) (T:=117);have hC1:=H.a 0 _ _ _ _ H.f (Nat.le_succ s.a) fun d hd=>q8 d hd;have CU:=uZ (Qj _);refine Ew U<|Tf U<|Ew U<|Tt U<|Es<|Lo (kz U) U<|Ln (kw U qw U) U<|Ld<|Es<|Lv 1 U<|Lo (kl U ct U) U<|Lw U<|Sb ?_;refine Ai (fun y:Nat×St=>([(50,.int .i64 (y.1:Nat)),(49,.int .i64 (l.length:Nat)),(48,Cq CN 1 l),(3,.J br 0),(0,.an (.yield b) [] [])],y.2)) (fun y=>l.length-y.1)
  (fun y=>y.1<=l.length/\C y.1 y.2.a y.2.b/\y.2.c=s.a/\s.a<=y.2.a/\(y.2.d=[]/\y.1=0\/y.2.d≠ []))
  (0,(s.u.g (.J [.Ca] 117 false)).z s.u.a (some (.J [Cq CN 1 l] 117 false))) ⟨Qo _,hC1,rfl,Nat.le_succ _,.inl ⟨CU,rfl⟩⟩ rfl (Ab (by repeat' constructor)) ?_
 rintro⟨j,st⟩ ⟨hj,hC,YH,ZL,Yc⟩;dsimp only at hj hC YH ZL Yc|-;by_cases h:j<l.length
 .have hp:=Af AD h;obtain⟨_,_,eO⟩:=H.e j _ _ hC;have hy:=H.l j (by rw[hlen];exact h) st (by omega) (by omega) hC;rw[List.getElem_map]at hy;focus
   refine Ew U<|Sq ?_;refine Cd U (fun h1=>?_) (fun h1=>?_);refine Sk<|Sq<|Sb<|Es<|Lq (kv U hp) U<|Lw U<|Es<|Lv 2 U<|Lo (kl U eO U) U ?_;rotate_left;exact absurd h1 (by omega)
  refine EZ U U U U U U U hy ?_;rintro v s' ⟨y1,y2,y3,y4,y5,y6,y7⟩;cases v with
  |true=>
   refine Lw U<|Tf U<|Sk<|Sr ?_;refine Lq (ka (b:=1) U (by omega)) U ?_;refine Lw U ?_;exact⟨(j+1,s'),⟨h,y6 U,y2.trans YH,by show s.a<=s'.a;omega,.inr (List.ne_nil_of_mem y3)⟩,by show l.length-(j+1)<l.length-j;omega,U,U,Ab (by repeat' constructor)⟩
  |false=>
   refine Lw U<|Tt U<|Se ?_;exact⟨.inl U,rfl,fun h=>absurd h (List.ne_nil_of_mem y3),ie.g s' (by omega) (.inr (y7 U))⟩
 .focus
   refine Ew U<|Sq ?_;refine Cd U (fun h1=>?_) (fun h1=>?_);exact absurd h1 (by omega);refine Sx<|A0 U ?_;rotate_left
  obtain rfl:j=l.length:=by omega
  refine⟨.inr U,rfl,fun h=>H.u (by rw[hlen];rcases Yc with⟨_,e⟩|e;exact e;exact absurd h e),ie.g st ZL (.inl (by rw[hlen];exact hC))⟩
theorem Vo (hc:ZT c) (hk:k<c.a.length) (hn:0<=n0/\n0<=60) (r:Int) (l:List WL) (hs:CO c.a[k]= .Y r l) (H:ie c k n0 b bc ba br s (l.map fun a=>(a.2,n0+g_ c.b a.1)) C D):
 Wm ER 121 [.an (.yield b) [] [],.J bc 0,.J ba 0,.J br 0] s (nH s (l.map fun a=>(a.2,n0+g_ c.b a.1)) C D):=by
 refine Wm.unit (fn:=Tryz.f121) U (by kernel_rfl) U U U U ?_;have Z4:=Af A8 hk;obtain⟨er,dt,_⟩:=H.e 0 _ _ H.f;have hb0':s.u.b.g bc=some (.J (CJ c) 28 false):=er;have yP:s.u.b.g ba=some (.J [.int .i64 (k:Nat)] 3 false):=dt;have fq:=hc.a.a _ (Ql hk);have dC:=hc.I;have W6:=hc.g hk;generalize hx:c.a[k]=x at*;refine Es<|Lv 1 U ?_;iterate 2 refine Lo (kl U ‹_› U) U ?_
 refine Lq (kv U Z4) U<|Lv 1 U ?_;refine Lo (kc U (Br)) U<|Ld<|Sb ?_;rw[hs];obtain⟨XB,rfl,rfl⟩:=(FG (x:=x)).1 _ _ hs;rw[Io XB]at W6;simp only[Qf]at W6;replace W6:=W6.2.2.2;generalize x.b=l at*;have hlen:(l.map fun a=>((a.2,n0+g_ c.b a.1):WL)).length=l.length:=Qn ..;obtain⟨qw,ct,hc3,q8,yb,uZ,hc7⟩:=AU (st:=s.u) (z:=[.int .i64 0,.Ca]) (cs:=[.int .i64 x.a,Cq Y9 2 l]) (T:=114);have hC1:=H.a 0 _ _ _ _ H.f (Nat.le_succ s.a) fun d hd=>q8 d hd;have CU:=uZ (Qj _);refine Ew U<|Tt U<|Es<|Lo (kz U) U<|Ln (kw U qw U) U<|Ld<|Es<|Lv 1 U<|Lo (kl U ct U) U<|Lw U<|Sb ?_;refine Ai (fun y:Nat×St=>([(24,.int .i64 (y.1:Nat)),(23,.int .i64 (l.length:Nat)),(22,Cq Y9 2 l),(3,.J br 0),(1,.J bc 0),(0,.an (.yield b) [] [])],y.2)) (fun y=>l.length-y.1)
  (fun y=>y.1<=l.length/\C y.1 y.2.a y.2.b/\y.2.c=s.a/\s.a<=y.2.a/\(y.2.d=[]/\y.1=0\/y.2.d≠ []))
  (0,(s.u.g (.J [.int .i64 0,.Ca] 114 false)).z s.u.a (some (.J [.int .i64 x.a,Cq Y9 2 l] 114 false))) ⟨Qo _,hC1,rfl,Nat.le_succ _,.inl ⟨CU,rfl⟩⟩ rfl (Ab (by repeat' constructor)) ?_
 clear hC1 qw ct hc3 q8 yb uZ hc7 CU;rintro⟨j,st⟩ ⟨hj,hC,YH,ZL,Yc⟩;dsimp only at hj hC YH ZL Yc|-;by_cases h:j<l.length
 .have hp:=Af BE h;have Y0:=GJ (n:=l.length) W6 h;unfold aS at Y0;rw[Ao h]at Y0;simp only[Qf]at Y0;obtain⟨hz,C5⟩:=VW.1 Y0.1.1;have ow:=Af Av (l:=c.b) (i:=l[j].1.toNat) (by omega);have uC:=hc.z _ (Ql (show l[j].1.toNat<c.b.length by omega));have eM:g_ c.b l[j].1=c.b[l[j].1.toNat].2:=by unfold g_;rw[Ao]
  obtain⟨qw,ct,hc3,q8,yb,uZ,hc7⟩:=AU (st:=st) (z:=[.int .i64 0,.int .i64 0]) (cs:=[.int .i64 l[j].1,.int .i64 l[j].2]) (T:=60);have hC2:=H.a j _ _ _ _ hC (Nat.le_succ st.a) fun d hd=>q8 d hd;obtain⟨hbc,_,eO⟩:=H.e j _ _ hC2;have oP:=uZ (by omega);have eL:((st.g (.J [.int .i64 0,.int .i64 0] 60 false)).z st.a (some (.J [.int .i64 l[j].1,.int .i64 l[j].2] 60 false))).c=s.a:=yb.trans YH;have dx:((st.g (.J [.int .i64 0,.int .i64 0] 60 false)).z st.a (some (.J [.int .i64 l[j].1,.int .i64 l[j].2] 60 false))).a=st.a+1:=hc7;focus
   refine Ew U<|Sq ?_;refine Cd U (fun h1=>?_) (fun h1=>?_);refine Sk<|Sq<|Sb<|Es<|Lq (kv U hp) U<|Lv 1 U<|Lo (kz U) U<|Ln (kw U qw U) U<|Ld<|Ad (by kernel_rfl)<|Nv 2 U ?_;iterate 2 refine Nm U ‹_› U (.inl U) U ?_
   refine Nv 2 U<|Nm U hbc U (.inl U) U<|Nv 1 U<|Nm U ct U (.inl U) U<|Nq (AW U ra Nf U U (by first|assumption|omega) ow) U<|Nv 2 U<|Nq (X3.add U ey U U (by omega)) U ?_;rotate_left;exact absurd h1 (by omega)
  have hy:=H.l j (by rw[hlen];exact h) (((st.g (.J [.int .i64 0,.int .i64 0] 60 false)).z st.a (some (.J [.int .i64 l[j].1,.int .i64 l[j].2] 60 false))).B ((st.g (.J [.int .i64 0,.int .i64 0] 60 false)).z st.a (some (.J [.int .i64 l[j].1,.int .i64 l[j].2] 60 false))).b) (by show s.a<=st.a+1;omega) (Qj _) hC2;rw[List.getElem_map,eM]at hy;refine Qy U U U U hy (by kernel_rfl) U (.inl U) U U ?_;rintro v s' ⟨y1,y2,y3,y4,y5,y6,y7⟩;have y1':((st.g (.J [.int .i64 0,.int .i64 0] 60 false)).z st.a (some (.J [.int .i64 l[j].1,.int .i64 l[j].2] 60 false))).a<=s'.a:=y1;refine⟨y1',fun d hd=>(y4 d hd).elim (fun h=>by cases h) id,fun dA=>?_⟩;have hme:=GR (st:=((st.g (.J [.int .i64 0,.int .i64 0] 60 false)).z st.a (some (.J [.int .i64 l[j].1,.int .i64 l[j].2] 60 false)))) y1' y5
  have qY:(((st.g (.J [.int .i64 0,.int .i64 0] 60 false)).z st.a (some (.J [.int .i64 l[j].1,.int .i64 l[j].2] 60 false))).A s').a=s'.a:=rfl;have hmb:(((st.g (.J [.int .i64 0,.int .i64 0] 60 false)).z st.a (some (.J [.int .i64 l[j].1,.int .i64 l[j].2] 60 false))).A s').c=s.a:=eL;have sf:b∈(((st.g (.J [.int .i64 0,.int .i64 0] 60 false)).z st.a (some (.J [.int .i64 l[j].1,.int .i64 l[j].2] 60 false))).A s').d:=by
   show b∈below ((st.g (.J [.int .i64 0,.int .i64 0] 60 false)).z st.a (some (.J [.int .i64 l[j].1,.int .i64 l[j].2] 60 false))).c s'.d ((st.g (.J [.int .i64 0,.int .i64 0] 60 false)).z st.a (some (.J [.int .i64 l[j].1,.int .i64 l[j].2] 60 false))).d;exact BV y3 (by rw[eL];exact H.m)
  refine Cz.st (s2:=((st.g (.J [.int .i64 0,.int .i64 0] 60 false)).z st.a (some (.J [.int .i64 l[j].1,.int .i64 l[j].2] 60 false))).A s') U ?_;generalize ((st.g (.J [.int .i64 0,.int .i64 0] 60 false)).z st.a (some (.J [.int .i64 l[j].1,.int .i64 l[j].2] 60 false))).A s'=Y7 at*;cases v with
  |true=>
   refine Nw U<|Tf U<|Sk<|Sr ?_;refine Lq (ka (b:=1) U (by omega)) U ?_;refine Lw U ?_;exact⟨(j+1,Y7),⟨h,H.a _ _ _ _ _ (y6 U) (Nat.le_of_eq qY.symm) hme,hmb,by show s.a<=Y7.a;omega,.inr (List.ne_nil_of_mem sf)⟩,by show l.length-(j+1)<l.length-j;omega,U,U,Ab (by repeat' constructor)⟩
  |false=>
   refine Nw U<|Tt U<|Se ?_;exact⟨.inl U,rfl,fun h=>absurd h (List.ne_nil_of_mem sf),ie.g Y7 (by omega) (.inr (H.i _ _ _ _ (y7 U) (Nat.le_of_eq qY.symm) hme))⟩
 .focus
   refine Ew U<|Sq ?_;refine Cd U (fun h1=>?_) (fun h1=>?_);exact absurd h1 (by omega);refine Sx<|A0 U ?_;rotate_left
  obtain rfl:j=l.length:=by omega
  refine⟨.inr U,rfl,fun h=>H.u (by rw[hlen];rcases Yc with⟨_,e⟩|e;exact e;exact absurd h e),ie.g st ZL (.inl (by rw[hlen];exact hC))⟩
theorem Rq (hc:ZT c) (hk:k<c.a.length) (hn:0<=n0/\n0<=60) (hs:CO c.a[k]= .kt\/∃o n l,CO c.a[k]= .O o n l) (H:ie c k n0 b bc ba br s [(((k+1:Nat):Int),n0+1)] C D):
 Wm ER 121 [.an (.yield b) [] [],.J bc 0,.J ba 0,.J br 0] s (nH s [(((k+1:Nat):Int),n0+1)] C D):=by
 have Z4:=Af A8 hk;obtain⟨er,dt,dD⟩:=H.e 0 _ _ H.f;have hb0':s.u.b.g bc=some (.J (CJ c) 28 false):=er;have yP:s.u.b.g ba=some (.J [.int .i64 (k:Nat)] 3 false):=dt;have hb2':s.u.b.g br=some (.J [.int .i64 n0] 3 false):=dD;have dC:=hc.I;have hy:=H.l 0 (Nat.succ_pos 0) s.u (Qj _) (Qj _) H.f;have Xn:∀v s',(s.u.a<=s'.a/\s'.c=s.u.c/\b∈s'.d/\(∀d∈s'.d,d∈s.u.d\/d<s.u.c)/\(∀d,d<s.u.c->d∉s'.d->s'.b.g d=s.u.b.g d)/\(v=true->C (0+1) s'.a s'.b)/\(v=false->D s'.a s'.b))->
  (s'.d=[]->nH s [(((k+1:Nat):Int),n0+1)] C D (.Y []) s)/\nH s [(((k+1:Nat):Int),n0+1)] C D (.Y []) (s.G s'):=by
  rintro v s' ⟨y1,y2,y3,y4,y5,y6,y7⟩;refine⟨fun h=>absurd h (List.ne_nil_of_mem y3),ie.g s' y1 ?_⟩;cases v with
  |true=>exact .inl (y6 rfl)
  |false=>exact .inr (y7 rfl)
 generalize hx:c.a[k]=x at*;refine Wm.unit (fn:=Tryz.f121) U (by kernel_rfl) U U U U<|Es<|Lv 1 U ?_;iterate 2 refine Lo (kl U ‹_› U) U ?_
 refine Lq (kv U Z4) U<|Lv 1 U ?_;refine Lo (kc U (Br)) U<|Ld<|Sb ?_;rcases hs with hs|⟨o,n,l,hs⟩
 .rw[hs];refine Ew U<|Tf U<|Ew U<|Tf U<|Ew U<|Tt U<|Ew U<|Sr<|qm U<|Lo (kl U yP U) U ?_;refine Lq (ka (b:=1) U (by omega)) U ?_;refine Lo (kl U hb2' U) U<|Lq (X3.add U ey U U (by omega)) U<|EZ U U U U U U U hy ?_;intro v s' h;refine Ld ?_;exact⟨.inr U,U,(Xn v s' h).1,(Xn v s' h).2⟩
 .rw[hs];refine Ew U<|Tf U<|Ew U<|Tf U<|Ew U<|Tt U<|Ew U<|Sr<|qm U<|Lo (kl U yP U) U ?_;refine Lq (ka (b:=1) U (by omega)) U ?_;refine Lo (kl U hb2' U) U<|Lq (X3.add U ey U U (by omega)) U<|EZ U U U U U U U hy ?_;intro v s' h;refine Ld ?_;exact⟨.inr U,U,(Xn v s' h).1,(Xn v s' h).2⟩
theorem Rp (hc:ZT c) (hk:k<c.a.length) (hs:CO c.a[k]= .mv\/∃r,CO c.a[k]= .J r) (H:ie c k n0 b bc ba br s [] C D):
 Wm ER 121 [.an (.yield b) [] [],.J bc 0,.J ba 0,.J br 0] s (nH s [] C D):=by
 have Z4:=Af A8 hk;obtain⟨er,dt,dD⟩:=H.e 0 _ _ H.f;have hb0':s.u.b.g bc=some (.J (CJ c) 28 false):=er;have yP:s.u.b.g ba=some (.J [.int .i64 (k:Nat)] 3 false):=dt;generalize hx:c.a[k]=x at*;refine Wm.unit (fn:=Tryz.f121) U (by kernel_rfl) U U U U<|Es<|Lv 1 U ?_;iterate 2 refine Lo (kl U ‹_› U) U ?_
 refine Lq (kv U Z4) U<|Lv 1 U ?_;refine Lo (kc U (Br)) U<|Ld<|Sb ?_;rcases hs with hs|⟨r,hs⟩
 .rw[hs];refine Ew U<|Tf U<|Ew U<|Tf U<|Ew U<|Tf U<|Sk ?_;exact⟨.inr U,rfl,fun _=>H.u U,ie.g s.u (Qj _) (.inl H.f)⟩
 .rw[hs];refine Ew U<|Tf U<|Ew U<|Tf U<|Ew U<|Tf U<|Sk ?_;exact⟨.inr U,rfl,fun _=>H.u U,ie.g s.u (Qj _) (.inl H.f)⟩
theorem fol_run (hc:ZT c) (hk:k<c.a.length) (hn:0<=n0/\n0<=60) (H:ie c k n0 b bc ba br s (Wc c k c.a[k] n0) C D):
 Wm ER 121 [.an (.yield b) [] [],.J bc 0,.J ba 0,.J br 0] s (nH s (Wc c k c.a[k] n0) C D):=by
 have W6:=hc.g hk;have na:=AY c k c.a[k];rw[W6]at na;rw[Pg W6]at H|-;rcases h:CO c.a[k]with⟨r,l⟩|l|_|_|⟨o,n',l⟩|r|_
 .rw[h]at H;exact Vo hc hk hn r l h H
 .rw[h]at H;exact yO hc hk l h H
 .rw[h]at H;exact Rp hc hk (.inl h) H
 .rw[h]at H;exact Rq hc hk hn (.inl h) H
 .rw[h]at H;exact Rq hc hk hn (.inr ⟨_,_,_,h⟩) H
 .rw[h]at H;exact Rp hc hk (.inr ⟨_,h⟩) H
 .rw[h]at na;cases na
theorem PO 
 (hR:∀Yk,Yk.a=st.a+3->Yk.b.g st.a=some (.J (CJ c) 28 false)->Yk.b.g (st.a+1)=some (.J [.int .i64 (k:Nat)] 3 false)->Yk.b.g (st.a+2)=some (.J [.int .i64 n0] 3 false)->CL st Yk (fun _=>False)->
  R (.an (.func 121) [] [.J st.a 0,.J (st.a+1) 0,.J (st.a+2) 0]) Yk):Wm ER 72 [.O (CJ c),.int .i64 (k:Nat),.int .i64 n0] st R:=by
 refine Wm.gen (fn:=Tryz.f72) U (by kernel_rfl) U U U U<|Es ?_;iterate 3 refine Lo (BR U U U) U ?_
 refine Lw U<|Ew U<|Se ?_;have C5:Nat.blt st.a st.a=false:=by
  cases hb:Nat.blt st.a st.a with
  |false=>rfl
  |true=>have:st.a<st.a:=Qc hb;omega
 have ed:CL st.u (((st.u.g (.J (CJ c) 28 false)).g (.J [.int .i64 (k:Nat)] 3 false)).g (.J [.int .i64 n0] 3 false)) (fun _=>False):=
  (CL.g (CL.g CL.z CL.z (o1:=fun _=>False) (o2:=fun _=>False) (own:=fun _=>False) (fun _ h=>h) (fun _ h=>h.elim) (Qj _)) CL.z (o2:=fun _=>False) (own:=fun _=>False) (fun _ h=>h) (fun _ h=>h.elim) (Qj _))
 refine⟨.inl U,_,U,_,Ac U U,_,SD U U U ?_,hR _ U ?_ ?_ ?_ ed.u⟩
 .show(Nat.blt st.a st.a&&_)=false;rw[C5];rfl
 .show(((st.u.g _).g _).g _).b.g st.a=_;rw[E9,if_neg (by show st.a≠st.a+1+1;omega),E9,if_neg (by show st.a≠st.a+1;omega)];exact Ax (st:=st.u)
 .show(((st.u.g _).g _).g _).b.g (st.a+1)=_;rw[E9,if_neg (by show st.a+1≠st.a+1+1;omega)];exact Ax (st:=st.u.g _)
 .exact Ax (st:=(st.u.g _).g _)
end
structure bg (c:Cj) (v:AV) (b4 b5:Nat) (out:List Int) (n:Nat) (h:Tr CG):Prop where
 i:h.g 0=some (.J (CJ c) 28 false)
 a:h.g 1=some (.J [.Ca] 26 false)
 d:h.g 2=some (.J [.bool false] 4 false)
 e:h.g b4=some (.J [v] 26 false)
 l:h.g b5=some (.J [.an (.func 69) [] [.J b4 0]] 143 false)
 f:(v= .Ca/\out=[])\/∃b,v= .Z b 0 out.length 1 (some out.length)/\4<=b/\b<b4/\h.g b=some (.J (zs out) 3 false)/\out≠ []
 m:4<=b4
 j:b4<b5
 k:b5<n
section
variable {c : Cj} {v : AV} {b4 b5 : Nat} {out : List Int}
theorem bg.g {n n':Nat} {h h':Tr CG} (H:bg c v b4 b5 out n h) (hn:n<=n') (hh:∀d,d<n->h'.g d=h.g d):bg c v b4 b5 out n' h':=by
 have:=H.m;have:=H.j;have:=H.k;refine⟨(hh 0 (by omega)).trans H.i,(hh 1 (by omega)).trans H.a,(hh 2 (by omega)).trans H.d,(hh b4 (by omega)).trans H.e,(hh b5 (by omega)).trans H.l,?_,H.m,H.j,by omega⟩;rcases H.f with h|⟨b,h1,h2,h3,h4,h5⟩
 .exact .inl h
 .exact .inr ⟨b,h1,h2,h3,(hh b (by omega)).trans h4,h5⟩
theorem bg.u {n:Nat} {h h':Tr CG} (H:bg c v b4 b5 out n h) (hh:∀d,d<=b5->h'.g d=h.g d):bg c v b4 b5 out n h':=by
 have:=H.m;have:=H.j;refine⟨(hh 0 (by omega)).trans H.i,(hh 1 (by omega)).trans H.a,(hh 2 (by omega)).trans H.d,(hh b4 (by omega)).trans H.e,(hh b5 (by omega)).trans H.l,?_,H.m,H.j,H.k⟩;rcases H.f with h|⟨b,h1,h2,h3,h4,h5⟩
 .exact .inl h
 .exact .inr ⟨b,h1,h2,h3,(hh b (by omega)).trans h4,h5⟩
theorem bg.z (H:bg c v b4 b5 out st.a st.b):sQ st v out:=by
 have:=H.j;have:=H.k;rcases H.f with h|⟨b,h1,h2,h3,h4,h5⟩
 .exact .inl h
 .exact .inr ⟨b,h1,by omega,h4,h5⟩
theorem bg.own {n:Nat} {h:Tr CG} (H:bg c v b4 b5 out n h) (hd:d<4\/b4<=d):¬CB d v=true:=by
 rcases H.f with⟨rfl,_⟩|⟨b,rfl,h2,h3,_,_⟩
 .intro h;cases h
 .intro h;have:b=d:=Qb h;omega
theorem LU {s2:St} {k:Nat} (H:bg c v b4 b5 out st.a st.b) (hq:sQ s2 v (out.set k r)) (hc:CL st s2 (fun d=>CB d v=true)) (hn:s2.a=st.a):bg c v b4 b5 (out.set k r) s2.a s2.b:=by
 have n4:=H.m;have n5:=H.j;have lt:=H.k;have hk:∀d,(d<4\/b4<=d)->d<st.a->s2.b.g d=st.b.g d:=fun d hd C5=>hc.b d C5 (H.own hd);refine⟨(hk 0 (by omega) (by omega)).trans H.i,(hk 1 (by omega) (by omega)).trans H.a,(hk 2 (by omega) (by omega)).trans H.d,(hk b4 (by omega) (by omega)).trans H.e,(hk b5 (by omega) (by omega)).trans H.l,?_,n4,n5,by omega⟩;rcases H.f with⟨rfl,rfl⟩|⟨b,rfl,h2,h3,h4,h5⟩
 .exact .inl ⟨U,U⟩
 .rcases hq with⟨h,_⟩|⟨b',e,_,ZJ,Yh⟩
  .cases h
  .obtain⟨rfl,_⟩:=AV.Z.inj e;exact .inr ⟨b,by rw[List.length_set],h2,h3,ZJ,Yh⟩
def ReachQ (st:St) (v:AV) (out:List Int) (k:Nat) (r:Int) (w:AV) (s2:St):Prop:=
 (w= .bool false/\XX out k r=true/\s2=st)\/(w= .bool true/\XX out k r=false/\sQ s2 v (out.set k r)/\CL st s2 (fun d=>CB d v=true)/\s2.a=st.a/\∀d,d<st.c->d∉s2.d->s2.b.g d=st.b.g d)
theorem Uc (hg4:st.b.g b4=some (.J [v] 26 false)) (ho:sQ st v out) (hl:out.length<=4000) (k:Nat) (r:Int):Wm ER 69 [.int .i64 (k:Nat),.int .i64 r,.J b4 0] st (ReachQ st v out k r):=
 Ub hg4 ho hl k r (fun h=> .inl ⟨rfl,h,rfl⟩) (fun h Yk h1 h2 h3 _ h5=> .inr ⟨rfl,h,h1,h2,h3,h5⟩)
end
theorem over_to {n0:Int} {b:Nat} {s:St} (hg:s.b.g b=some (.J [.int .i64 n0] 3 false)) (r:Int):Co ER 71 [.int .i64 r,.J b 0] s (.bool (decide (n0<=r))):=by
 refine Co.flat (fn:=Tryz.f71) U (by kernel_rfl) U U U U (fun _ _=>rfl) (fun _=>rfl) ?_;have kB:s.u.b.g b=some (.J [.int .i64 n0] 3 false):=hg;refine Ew U<|Es<|qm U<|Lo (kl U kB U) U<|Lw U ?_;exact Se ⟨.inl U,U,U,_,Ac U U,U⟩
def regsS:ShT->List Int
 | .Y r _=>[r]
 | .O _ _ l=>l
 | .J r=>[r]
 |_=>[]
theorem VC (l:List Int) (n:Int):(l.any fun r=>decide (n<=r))= !eg l n:=by
 have h:=Kc l 0 (fun r=> !decide (n<=r));unfold eg;rw[<-h,List.not_all_eq_any_not];simp only[Bool.not_not]
theorem RZ {c:Cj} {k:Nat} {x:X8} {n:Int} (hi:YO c k x=true):((regsS (CO x)).any fun r=>decide (n<=r))= !XO x n:=by
 have hs:=AY c k x;rw[hi]at hs;obtain⟨h1,h2,h3,h4,h5,h6⟩:=FG (x:=x);have one:∀r:Int,([r].any fun r=>decide (n<=r))= !decide (r<n):=fun r=>by
  rw[List.any_cons,List.any_nil,Bool.or_false];by_cases h:r<n
  .rw[decide_eq_true h,decide_eq_false (by omega)];rfl
  .rw[decide_eq_false h,decide_eq_true (by omega)];rfl
 unfold XO;rcases h:CO x with⟨r,l⟩|l|_|_|⟨o,n',l⟩|r|_
 .obtain⟨e,rfl,_⟩:=h1 r l h;rw[if_pos (.inl e)];exact one _
 .obtain⟨e,_⟩:=h2 l h;rw[if_neg (by omega),if_neg (by omega)];rfl
 .have e:=h3 h;rw[if_neg (by omega),if_neg (by omega)];rfl
 .have e:=h4 h;rw[if_neg (by omega),if_neg (by omega)];rfl
 .obtain⟨e,rfl⟩:=h5 _ _ _ h;rw[if_neg (by omega),if_pos e];exact VC _ _
 .obtain⟨e,rfl⟩:=h6 r h;rw[if_pos (.inr e)];exact one _
 .rw[h]at hs;cases hs
def sR (c:Cj) (ex:Ex) (fr:Fr) (l:Sl) (st:St):Prop:=(ex= .Y\/ex= .J)/\∃Yk,ZE fr.defers st=some Yk/\Yk.d=[]/\Yk.c=0/\∃vs w ks,CK ER Yk l (Tryz.f34).results.toList=some vs/\C9 Yk 0 40 (Zi vs) []=some (w,ks)/\CD 0 40 w=true/\w=W4 c
def dfs (rs:List Nat):List fY:=rs.map fun r=> {a:= .J r,args:=[]}
theorem VE {c:Cj} {l:Sl} {rs:List Nat} (hd:fr.defers=dfs rs) (Zw:rs.Nodup) (ld:∀r∈rs,st.b.g r=some (.Z true)/\4<=r) (h2:Am.d_ 2 l=some (.J 1 0)) (h3:Am.d_ 3 l=some (.J 2 0))
 (g1:st.b.g 1=some (.J [.Ca] 26 false)) (g2:st.b.g 2=some (.J [.bool false] 4 false)) (hb:st.c=0) (hl:st.d=[]) (hn:WI c=none):sR c .Y fr l st:=by
 obtain⟨s',e1,e2,e3,e4,e5⟩:=EI Zw (fun r hr=>(ld r hr).1);have nin:∀d,d<4->d∉rs:=fun d hd h=>by have:=(ld d h).2;omega
 refine⟨.inl U,s',by rw[hd];exact e1,(e4 hb).trans hl,e3.trans hb,[.Ca,.bool false],.Y [.Ca,.bool false],[],?_,U,U,?_⟩
 .exact DB h2 OE Iy ((e5 1 (nin 1 (by decide))).trans g1) U (DB h3 xM u3 ((e5 2 (nin 2 (by decide))).trans g2) U U)
 .unfold W4;rw[hn]
theorem bef_yes {c:Cj} {l:Sl} {rs:List Nat} {v:AV} {out:List Int} (hd:fr.defers=dfs rs) (Zw:rs.Nodup) (ld:∀r∈rs,st.b.g r=some (.Z true)/\4<=r) (h2:Am.d_ 2 l=some (.J 1 0)) (h3:Am.d_ 3 l=some (.J 2 0))
 (g1:st.b.g 1=some (.J [v] 26 false)) (g2:st.b.g 2=some (.J [.bool true] 4 false)) (hv:(v= .Ca/\out=[])\/∃b,v= .Z b 0 out.length 1 (some out.length)/\st.b.g b=some (.J (zs out) 3 false)/\out≠ []/\b∉rs)
 (hb:st.c=0) (hl:st.d=[]) (hn:WI c=some out):sR c .Y fr l st:=by
 obtain⟨s',e1,e2,e3,e4,e5⟩:=EI Zw (fun r hr=>(ld r hr).1);have nin:∀d,d<4->d∉rs:=fun d hd h=>by have:=(ld d h).2;omega
 have rK:∃ks,C9 s' 0 39 v []=some (bH (zs out) out.length 1,ks):=by
  rcases hv with⟨rfl,rfl⟩|⟨b,rfl,hg,Yh,eO⟩
  .exact⟨[],U⟩
  .have hln:out.length≠0:=fun h=>Yh (List.length_eq_zero_iff.1 h);rw[EN hln];refine⟨[b],?_⟩;show(Ww (s'.b.g b)).bind _=_;rw[e5 b eO,hg];show(v_ (zs out) 0 (out.length*1)).bind _=_;rw[Hp (by rw[IK];omega),List.drop_zero,List.take_of_length_le (by rw[IK];omega)];show(C9.many (C9 s' 0 38) (zs out) []).bind _=_;rw[FR (G6 out)];show some (AV.Ck _ _ _ ((zs out).all (Cr 40)),_)=_;rw[MX]
 obtain⟨ks,rK⟩:=rK;refine⟨.inl U,s',by rw[hd];exact e1,(e4 hb).trans hl,e3.trans hb,[v,.bool true],.Y [bH (zs out) out.length 1,.bool true],ks,?_,?_,?_,?_⟩
 .exact DB h2 OE Iy ((e5 1 (nin 1 (by decide))).trans g1) U (DB h3 xM u3 ((e5 2 (nin 2 (by decide))).trans g2) U U)
 .show(C9.many (C9 s' 0 39) [v,.bool true] []).bind _=_;unfold C9.many C9.many C9.many;rw[rK];rfl
 .unfold bH;cases Nat.beq out.length 0<;>rfl
 .unfold W4;rw[hn]
structure BC (c:Cj) (v:AV) (b4:Nat) (rs:List Nat) (bc k:Nat) (n0:Int) (sn:Nat) (lp:bV) (out:List Int) (j n:Nat) (h:Tr CG):Prop where
 a:vf c k n0 j out
 d:bg c v b4 (b4+1) out n h
 l:h.g bc=some (.J (CJ c) 28 false)
 m:h.g (bc+1)=some (.J [.int .i64 (k:Nat)] 3 false)
 o:h.g (bc+2)=some (.J [.int .i64 n0] 3 false)
 b:∀r∈rs,h.g r=some (.Z true)/\b4+1<r/\r<bc
 e:h.g sn=some (.Z true)
 f:h.g (sn+1)=some (.O lp)
 i:b4+1<bc
 u:bc+2<sn
 p:sn+1<n
structure BD (c:Cj) (b4:Nat) (rs:List Nat) (bc sn n:Nat) (h:Tr CG):Prop where
 g1:h.g 1=some (.J [.Ca] 26 false)
 g2:h.g 2=some (.J [.bool false] 4 false)
 a:∀r∈rs,h.g r=some (.Z true)/\b4+1<r/\r<bc
 df:h.g sn=some (.Z true)
 lp:∃lp,h.g (sn+1)=some (.O lp)/\lp.a= .done/\lp.b=some .ret
 no:WI c=none
 b:4<=b4
 u:bc+2<sn
 o3:sn+1<n
 d:b4+1<bc
section
variable {c : Cj} {v : AV} {b4 : Nat} {rs : List Nat} {bc k : Nat} {n0 : Int} {sn : Nat} {lp : bV} {out : List Int} {j n n' : Nat} {h h' : Tr CG}
theorem BC.g (H:BC c v b4 rs bc k n0 sn lp out j n h) (hn:n<=n') (hh:∀d,d<n->h'.g d=h.g d):BC c v b4 rs bc k n0 sn lp out j n' h':=by
 have:=H.i;have:=H.u;have:=H.p;exact⟨H.a,H.d.g hn hh,(hh _ (by omega)).trans H.l,(hh _ (by omega)).trans H.m,(hh _ (by omega)).trans H.o,fun r hr=>⟨(hh r (by have:=(H.b r hr).2.2;omega)).trans (H.b r hr).1,(H.b r hr).2⟩,(hh _ (by omega)).trans H.e,(hh _ (by omega)).trans H.f,H.i,H.u,by omega⟩
theorem BD.g (H:BD c b4 rs bc sn n h) (hn:n<=n') (hh:∀d,d<n->h'.g d=h.g d):BD c b4 rs bc sn n' h':=by
 have:=H.b;have:=H.u;have:=H.o3;have:=H.d;obtain⟨lp,l1,l2,l3⟩:=H.lp;exact⟨(hh _ (by omega)).trans H.g1,(hh _ (by omega)).trans H.g2,fun r hr=>⟨(hh r (by have:=(H.a r hr).2.2;omega)).trans (H.a r hr).1,(H.a r hr).2⟩,(hh _ (by omega)).trans H.df,⟨lp,(hh _ (by omega)).trans l1,l2,l3⟩,H.no,H.b,H.u,by omega,H.d⟩
end
def lp0 (nt:Nat) (T:Tr AV) (ps:List Nat) (as_ bd:Code):bV:= {a:= .ready,b:=none,d:=0,nt:=nt,c:=T,params:=ps,assign:=as_,body:=bd}
abbrev YesQ (c:Cj) (v:AV) (b4:Nat) (rs:List Nat) (bc k:Nat) (n0:Int) (sn:Nat) (lp:bV) (j:Nat) (st:St) (w:Bool) (s':St):Prop:=
 st.a<=s'.a/\s'.c=st.c/\sn+1∈s'.d/\(∀d∈s'.d,d∈st.d\/d<st.c)/\(∀d,d<st.c->d∉s'.d->s'.b.g d=st.b.g d)/\
  (w=true->∃qj,BC c v b4 rs bc k n0 sn lp qj (j+1) s'.a s'.b)/\(w=false->BD c b4 rs bc sn s'.a s'.b)
theorem Vn {c:Cj} {v:AV} {b4:Nat} {rs:List Nat} {k:Nat} {n0:Int} {out:List Int} {Y7:St} {bc:Nat} (hc:ZT c) (hk:k<c.a.length) (hn:0<=n0/\n0<=60) (nt:Nat) (T:Tr AV) (ps:List Nat) (as_ bd:Code)
 (qk:vf c k n0 0 out) (sm:bg c v b4 (b4+1) out Y7.a Y7.b) (x0:Y7.b.g bc=some (.J (CJ c) 28 false)) (x1:Y7.b.g (bc+1)=some (.J [.int .i64 (k:Nat)] 3 false)) (x2:Y7.b.g (bc+2)=some (.J [.int .i64 n0] 3 false))
 (ld:∀r∈rs,Y7.b.g r=some (.Z true)/\b4+1<r/\r<bc) (ho1:b4+1<bc) (rL:bc+2<Y7.a)
 (hyes:∀(qj:List Int) (j:Nat) (hj:j<(Wc c k c.a[k] n0).length) (st:St),Y7.a+2<=st.c->st.c<=st.a->BC c v b4 rs bc k n0 Y7.a (lp0 nt T ps as_ bd) qj j st.a st.b->
  C_ ER (Y7.a+1) [.int .i64 (Wc c k c.a[k] n0)[j].1,.int .i64 (Wc c k c.a[k] n0)[j].2] st (YesQ c v b4 rs bc k n0 Y7.a (lp0 nt T ps as_ bd) j st)):
 Wm ER 121 [.an (.yield (Y7.a+1)) [] [],.J bc 0,.J (bc+1) 0,.J (bc+2) 0] (Zp Y7 nt T ps as_ bd) (nH (Zp Y7 nt T ps as_ bd) (Wc c k c.a[k] n0) (fun j n h=>∃qj,BC c v b4 rs bc k n0 Y7.a (lp0 nt T ps as_ bd) qj j n h) (fun n h=>BD c b4 rs bc Y7.a n h)):=by
 have hold:∀d,d<Y7.a->(Zp Y7 nt T ps as_ bd).b.g d=Y7.b.g d:=fun d hd=>by
  show((Y7.g _).g _).b.g d=_;rw[Ap (Nat.lt_succ_of_lt hd),Ap hd]
 refine fol_run hc hk hn ⟨⟨out,qk,sm.g (Nat.le_succ_of_le (Nat.le_succ _)) hold,(hold _ (by omega)).trans x0,(hold _ (by omega)).trans x1,(hold _ rL).trans x2,fun r hr=>⟨(hold r (by have:=ld r hr;omega)).trans (ld r hr).1,(ld r hr).2⟩,?_,?_,ho1,rL,Nat.lt_succ_self _⟩,
  fun j n h n' h' ⟨o,H⟩ hn hh=>⟨o,H.g hn hh⟩,fun n h n' h' H hn hh=>H.g hn hh,fun j n h ⟨o,H⟩=>⟨H.l,H.m,H.o⟩,fun j hj st dt dD ⟨o,H⟩=>hyes o j hj st dt dD H,Nat.lt_succ_self _⟩
 .show((Y7.g _).g _).b.g Y7.a=_;rw[Ap (Nat.lt_succ_self _)];exact Ax
 .exact Ax (st:=Y7.g _)
set_option maxHeartbeats 4000000 in
theorem VD (c:Cj) (hc:ZT c):Co ER 34 [.O (CJ c)] S0 (W4 c):=by
 refine LS (fn:=Tryz.f34) (by kernel_rfl) U (by kernel_rfl) U U U U ?_;refine Cu.mono (Q:=fun ex fr l st=>sR c ex fr l st) ?_ (fun _ _ _ _ h=>h);have hl:=hc.I;have hfu:=hc.J;have XM:=hc.a.g;refine Eh U<|Es<|Lo (Bo 4 U I1 D9 qZ U U U U) U<|Ls 3 U ?_;refine kf U (Sh (b:=3) (n:=c.a.length) (AM 3) (Nat.lt_succ_self 3) (by omega) ?_);intro XC v hO jK hCh;have h4:4<=XC.a:=hCh.d;have k0:=(hCh.b 0 (show 0<4 by omega) (fun h=>h)).trans (AM 0);have k1:=(hCh.b 1 (show 1<4 by omega) (fun h=>h)).trans (AM 1);have k2:=(hCh.b 2 (show 2<4 by omega) (fun h=>h)).trans (AM 2);have dt:XC.c=0:=hCh.a;have dC:XC.d=[]:=List.eq_nil_iff_forall_not_mem.2 fun x hx=>by
  rcases hCh.e x hx with h|⟨_,h⟩
  .cases h
  .exact h
 have si:v.u=false/\v.g.length=1/\over v.g 0 [.Ca]=some [v]:=by
  rcases hO with⟨rfl,_⟩|⟨_,rfl,_⟩<;>exact⟨rfl,rfl,rfl⟩
 obtain⟨a1,a2,a3,a4,a5,a6,a7⟩:=AU (st:=XC) (z:=[.Ca]) (cs:=[v]) (T:=26);refine Lo (kz U) U<|Ln (BL (s':=((XC.g (.J [.Ca] 26 false)).z XC.a (some (.J [v] 26 false)))) U Iy U U (BH a1 si.2.1 si.1 si.2.2)) U ?_;obtain⟨d1,d2,d3,d4,d5,d6,d7⟩:=AU (st:=((XC.g (.J [.Ca] 26 false)).z XC.a (some (.J [v] 26 false)))) (z:=[.C7]) (cs:=[.an (.func 69) [] [.J XC.a 0]]) (T:=143)
 have sm:bg c v XC.a (XC.a+1) (List.replicate c.a.length (-1)) ((((XC.g (.J [.Ca] 26 false)).z XC.a (some (.J [v] 26 false))).g (.J [.C7] 143 false)).z ((XC.g (.J [.Ca] 26 false)).z XC.a (some (.J [v] 26 false))).a (some (.J [.an (.func 69) [] [.J XC.a 0]] 143 false))).a ((((XC.g (.J [.Ca] 26 false)).z XC.a (some (.J [v] 26 false))).g (.J [.C7] 143 false)).z ((XC.g (.J [.Ca] 26 false)).z XC.a (some (.J [v] 26 false))).a (some (.J [.an (.func 69) [] [.J XC.a 0]] 143 false))).b:=by
  have e:∀d,d<XC.a->((((XC.g (.J [.Ca] 26 false)).z XC.a (some (.J [v] 26 false))).g (.J [.C7] 143 false)).z ((XC.g (.J [.Ca] 26 false)).z XC.a (some (.J [v] 26 false))).a (some (.J [.an (.func 69) [] [.J XC.a 0]] 143 false))).b.g d=XC.b.g d:=fun d hd=>(d4 d (by rw[a7];omega)).trans (a4 d hd);refine⟨(e 0 (by omega)).trans k0,(e 1 (by omega)).trans k1,(e 2 (by omega)).trans k2,(d4 XC.a (by rw[a7];omega)).trans a2,d2,?_,h4,Nat.lt_succ_self _,by rw[d7];exact Nat.lt_succ_self _⟩;rcases hO with h|⟨b,e1,e2,e3,e4⟩
  .exact .inl h
  .exact .inr ⟨b,e1,jK b (by rw[e1];exact Nat.beq_refl b),e2,(e b e2).trans e3,e4⟩
 have q9:((((XC.g (.J [.Ca] 26 false)).z XC.a (some (.J [v] 26 false))).g (.J [.C7] 143 false)).z ((XC.g (.J [.Ca] 26 false)).z XC.a (some (.J [v] 26 false))).a (some (.J [.an (.func 69) [] [.J XC.a 0]] 143 false))).c=0:=d5.trans (a5.trans dt);have hlB:((((XC.g (.J [.Ca] 26 false)).z XC.a (some (.J [v] 26 false))).g (.J [.C7] 143 false)).z ((XC.g (.J [.Ca] 26 false)).z XC.a (some (.J [v] 26 false))).a (some (.J [.an (.func 69) [] [.J XC.a 0]] 143 false))).d=[]:=(d6 (by rw[a5,dt];exact Qo _)).trans ((a6 (by rw[dt];exact Qo _)).trans dC);have hg00:=sm.i;refine Ld<|Es<|Lv 1 U<|Lo (kz U) U<|Ln (kw U d1 U) U<|Ld<|Sq<|Es<|Lv 1 U<|Lo (kl U hg00 U) U<|Lw U<|Sb ?_
 refine Ai (fun y:Nat×List Int×St=>([(22,.int .i64 (y.1:Nat)),(21,.int .i64 (c.d.length:Nat)),(20,Cq CN 1 c.d),(5,.J (XC.a+1) 0),(4,.J XC.a 0),(3,.J 2 0),(2,.J 1 0),(1,.J 0 0)],y.2.2)) (fun y=>c.d.length-y.1)
  (fun y=>y.1<=c.d.length/\Fw c y.2.1/\fW c y.2.1 y.1/\bg c v XC.a (XC.a+1) y.2.1 y.2.2.a y.2.2.b/\y.2.2.c=0/\y.2.2.d=[]) (0,List.replicate c.a.length (-1),((((XC.g (.J [.Ca] 26 false)).z XC.a (some (.J [v] 26 false))).g (.J [.C7] 143 false)).z ((XC.g (.J [.Ca] 26 false)).z XC.a (some (.J [v] 26 false))).a (some (.J [.an (.func 69) [] [.J XC.a 0]] 143 false)))) ⟨Qo _,Fw.g c,fun f hf=>absurd hf (Nat.not_lt_zero _),sm,q9,hlB⟩ rfl (Ab (by repeat' constructor)) ?_
 clear hg00 sm q9 hlB d1 d2 d3 d4 d5 d6 d7 a1 a2 a3 a4 a5 a6 a7 k0 k1 k2 dt dC hCh;rintro⟨i,out,st⟩ ⟨hi,hfw,hsd,gZ,hb,Yc⟩;dsimp only at hi hfw hsd gZ hb Yc|-;have g0:=gZ.i;have g4:=gZ.e;have g5:=gZ.l;by_cases h:i<c.d.length
 .have hp:=Af AD h;have h':i<c.c.length:=by omega
  have ow:=Af Av h';have na:=hc.u h;obtain⟨k,hk⟩:∃k:Nat,c.d[i]=k:=⟨c.d[i].toNat,by omega⟩
  have hsp:(c.d.getD i 0,g_ c.c i)=(((k:Nat):Int),c.c[i].2):=by
   rw[Ao h,hk];unfold g_;rw[Int.toNat_natCast,Ao h']
  have Ya:=RO hc h;rw[hsp]at Ya;have uC:=hc.B _ (Ql h');rw[hk]at hp na;focus
   refine Ew U<|Sq ?_;refine Cd U (fun h6=>?_) (fun h6=>?_);refine Sk<|Sq<|Sb<|Es<|qm U<|Lq (kv U hp) U<|Lw U<|Ad (by kernel_rfl)<|Nm U g5 U (.inl U) U<|Nv 3 U<|Nm U g0 U (.inl U) U<|Nv 1 U<|Nq (kv U ow) U<|Nv 2 U ?_;rotate_left;exact absurd h6 (by omega)
  refine VJ (by kernel_rfl) U U U U U (Uc (st:=st.B st.b) (out:=out) g4 (bg.z (st:=st.B st.b) gZ) (by rw[hfw.d];omega) k c.c[i].2) (by kernel_rfl) U (.inl U) U U ?_;rintro w s2 (⟨rfl,hr,rfl⟩|⟨rfl,hr,hO2,ed,dx,fD⟩)
  .refine⟨Qj _,(fun d hd=>by cases hd),fun dA=>?_⟩;have hme:=GR (st:=st) (s2:=st.B st.b) (Qj _) (fun _ _ _=>rfl);have qI:(st.A (st.B st.b)).c=0:=hb;have zM:(st.A (st.B st.b)).d=[]:=Yc;have hbf3:bg c v XC.a (XC.a+1) out (st.A (st.B st.b)).a (st.A (st.B st.b)).b:=gZ.g (Qj _) hme;generalize st.A (st.B st.b)=Y7 at*;have hS1:=hbf3.a;have hS2:(Y7.z 1 (some (.J [.Ca] 26 false))).b.g 2=some (.J [.bool false] 4 false):=by rw[Ah,if_neg (by decide)];exact hbf3.d
   refine Nw U<|Tt U<|Es ?_;iterate 2 refine Ln (kw U ‹_› U) U ?_
   refine Ld<|Se ?_;exact VE (rs:=[]) U List.nodup_nil (fun r hr=>by cases hr) U U (by rw[Ah,if_neg (by decide),Ah,if_pos rfl]) (by rw[Ah,if_pos rfl]) qI ((Bv (show(Y7.z 1 _).c=0 from qI)).trans ((Bv qI).trans zM)) (hfw.u (p:=((k:Nat),c.c[i].2)) (by show(0:Int)<=(k:Nat);omega) Ya hr)
  .refine⟨Nat.le_of_eq dx.symm,fun d hd=>?_,fun dA=>?_⟩
   .rcases ed.e d hd with h|⟨h,_⟩
    .cases h
    .exact h
   have hme:=GR (st:=st) (s2:=s2) (Nat.le_of_eq dx.symm) fD;have qI:(st.A s2).c=0:=hb;have zM:(st.A s2).d=[]:=by
    show below st.c s2.d st.d=[]
    rw[hb,LH];exact Yc
   have hbf2:=LU (st:=st.B st.b) gZ hO2 ed dx;have hbf3:bg c v XC.a (XC.a+1) (out.set k c.c[i].2) (st.A s2).a (st.A s2).b:=hbf2.g (Qj _) hme;generalize st.A s2=Y7 at*;refine Nw U<|Tf U<|Sk<|Sr ?_;refine Lq (ka (b:=1) U (by omega)) U ?_;refine Lw U ?_;refine⟨(i+1,out.set k c.c[i].2,Y7),⟨h,hfw.z (p:=((k:Nat),c.c[i].2)) uC.1 Ya (.inl ⟨i,h,by rw[Ao h,hk]⟩) hr,?_,hbf3,qI,zM⟩,by show c.d.length-(i+1)<c.d.length-i;omega,U,U,Ab (by repeat' constructor)⟩;intro f hf uF;rcases Nat.lt_or_ge f i with C5|dq
   .exact hsd.CQ hc hr f C5 uF
   .obtain rfl:f=i:=by omega
    have:=(Rx hfw.d (p:=((k:Nat),c.c[f].2)) (by show(0:Int)<=(k:Nat);omega) hr).2.2;have e1:g_ c.c f=c.c[f].2:=(Prod.mk.inj hsp).2;have e2:c.d.getD f 0=(k:Nat):=(Prod.mk.inj hsp).1;rw[e1,e2];exact this
 obtain rfl:i=c.d.length:=by omega
 have hmn0:Mn c out 0:=⟨hfw,hsd,fun a ha=>absurd ha (Nat.not_lt_zero _)⟩
 focus
  refine Ew U<|Sq ?_;refine Cd U (fun h6=>?_) (fun h6=>?_);exact absurd h6 (by omega);refine Sx<|A0 U<|Sq<|Es<|Lv 1 U<|Lo (kl U g0 U) U<|Lw U<|Sb ?_;rotate_left
 refine Ts (fun y:Nat×List Int×List Nat×St=>([(42,.int .i64 (y.1:Nat)),(41,.int .i64 (c.a.length:Nat)),(40,Cq Wj 7 c.a),(5,.J (XC.a+1) 0),(4,.J XC.a 0),(3,.J 2 0),(2,.J 1 0),(1,.J 0 0)],y.2.2.2)) (fun y=> {n_ Tryz.f34.ntmps [.O (CJ c)] none with defers:=dfs y.2.2.1}) (fun y=>c.a.length-y.1)
  (fun y=>y.1<=c.a.length/\Mn c y.2.1 y.1/\bg c v XC.a (XC.a+1) y.2.1 y.2.2.2.a y.2.2.2.b/\y.2.2.1.Nodup/\(∀r∈y.2.2.1,y.2.2.2.b.g r=some (.Z true)/\XC.a+1<r/\r<y.2.2.2.a)/\y.2.2.2.c=0/\y.2.2.2.d=[])
  (0,out,[],st) ⟨Qo _,hmn0,gZ,List.nodup_nil,fun r hr=>(by cases hr),hb,Yc⟩ rfl rfl (Ab (by repeat' constructor)) ?_
 clear hmn0 gZ hb Yc g0 g4 g5 hsd hfw;rintro⟨k,out,rs,st⟩ ⟨hk,qY,gZ,Zw,ld,hb,Yc⟩;dsimp only at hk qY gZ Zw ld hb Yc|-;by_cases h:k<c.a.length
 .have hp:=Af A8 h;have wi:out.length=c.a.length:=qY.a.d;obtain⟨b,hve,hb4,hb5,sr,Yh⟩:∃b,v= .Z b 0 out.length 1 (some out.length)/\4<=b/\b<XC.a/\st.b.g b=some (.J (zs out) 3 false)/\out≠ []:=by
   rcases gZ.f with⟨_,h0⟩|h0
   .rw[h0]at wi;have:(0:Nat)=c.a.length:=wi;omega
   .exact h0
  obtain⟨a1,a2,a3,a4,a5,a6,a7⟩:=AU (st:=st) (z:=[.int .i64 0,.int .i64 0,.Ca,.Ca,.int .i64 0,.int .i64 0,.Ca]) (cs:=Wj c.a[k]) (T:=58);obtain⟨d1,d2,d3,d4,d5,d6,d7⟩:=AU (st:=((st.g (.J [.int .i64 0,.int .i64 0,.Ca,.Ca,.int .i64 0,.int .i64 0,.Ca] 58 false)).z st.a (some (.J (Wj c.a[k]) 58 false)))) (z:=[.int .i64 0]) (cs:=[.int .i64 (oA out k)]) (T:=3);have f1:bg c v XC.a (XC.a+1) out ((st.g (.J [.int .i64 0,.int .i64 0,.Ca,.Ca,.int .i64 0,.int .i64 0,.Ca] 58 false)).z st.a (some (.J (Wj c.a[k]) 58 false))).a ((st.g (.J [.int .i64 0,.int .i64 0,.Ca,.Ca,.int .i64 0,.int .i64 0,.Ca] 58 false)).z st.a (some (.J (Wj c.a[k]) 58 false))).b:=gZ.g (Nat.le_succ _) a4
  have f2:bg c v XC.a (XC.a+1) out ((((st.g (.J [.int .i64 0,.int .i64 0,.Ca,.Ca,.int .i64 0,.int .i64 0,.Ca] 58 false)).z st.a (some (.J (Wj c.a[k]) 58 false))).g (.J [.int .i64 0] 3 false)).z ((st.g (.J [.int .i64 0,.int .i64 0,.Ca,.Ca,.int .i64 0,.int .i64 0,.Ca] 58 false)).z st.a (some (.J (Wj c.a[k]) 58 false))).a (some (.J [.int .i64 (oA out k)] 3 false))).a ((((st.g (.J [.int .i64 0,.int .i64 0,.Ca,.Ca,.int .i64 0,.int .i64 0,.Ca] 58 false)).z st.a (some (.J (Wj c.a[k]) 58 false))).g (.J [.int .i64 0] 3 false)).z ((st.g (.J [.int .i64 0,.int .i64 0,.Ca,.Ca,.int .i64 0,.int .i64 0,.Ca] 58 false)).z st.a (some (.J (Wj c.a[k]) 58 false))).a (some (.J [.int .i64 (oA out k)] 3 false))).b:=f1.g (Nat.le_succ _) d4
  have e9:((((st.g (.J [.int .i64 0,.int .i64 0,.Ca,.Ca,.int .i64 0,.int .i64 0,.Ca] 58 false)).z st.a (some (.J (Wj c.a[k]) 58 false))).g (.J [.int .i64 0] 3 false)).z ((st.g (.J [.int .i64 0,.int .i64 0,.Ca,.Ca,.int .i64 0,.int .i64 0,.Ca] 58 false)).z st.a (some (.J (Wj c.a[k]) 58 false))).a (some (.J [.int .i64 (oA out k)] 3 false))).b.g st.a=some (.J (Wj c.a[k]) 58 false):=(d4 st.a (Nat.lt_succ_self _)).trans a2
  have eL:((((st.g (.J [.int .i64 0,.int .i64 0,.Ca,.Ca,.int .i64 0,.int .i64 0,.Ca] 58 false)).z st.a (some (.J (Wj c.a[k]) 58 false))).g (.J [.int .i64 0] 3 false)).z ((st.g (.J [.int .i64 0,.int .i64 0,.Ca,.Ca,.int .i64 0,.int .i64 0,.Ca] 58 false)).z st.a (some (.J (Wj c.a[k]) 58 false))).a (some (.J [.int .i64 (oA out k)] 3 false))).c=0:=d5.trans (a5.trans hb)
  have fD:((((st.g (.J [.int .i64 0,.int .i64 0,.Ca,.Ca,.int .i64 0,.int .i64 0,.Ca] 58 false)).z st.a (some (.J (Wj c.a[k]) 58 false))).g (.J [.int .i64 0] 3 false)).z ((st.g (.J [.int .i64 0,.int .i64 0,.Ca,.Ca,.int .i64 0,.int .i64 0,.Ca] 58 false)).z st.a (some (.J (Wj c.a[k]) 58 false))).a (some (.J [.int .i64 (oA out k)] 3 false))).d=[]:=(d6 (by rw[a5,hb];exact Qo _)).trans ((a6 (by rw[hb];exact Qo _)).trans Yc)
  have mz:∀r∈rs,((((st.g (.J [.int .i64 0,.int .i64 0,.Ca,.Ca,.int .i64 0,.int .i64 0,.Ca] 58 false)).z st.a (some (.J (Wj c.a[k]) 58 false))).g (.J [.int .i64 0] 3 false)).z ((st.g (.J [.int .i64 0,.int .i64 0,.Ca,.Ca,.int .i64 0,.int .i64 0,.Ca] 58 false)).z st.a (some (.J (Wj c.a[k]) 58 false))).a (some (.J [.int .i64 (oA out k)] 3 false))).b.g r=some (.Z true)/\XC.a+1<r/\r<st.a:=fun r hr=>
   ⟨(d4 r (Nat.lt_succ_of_lt (ld r hr).2.2)).trans ((a4 r (ld r hr).2.2).trans (ld r hr).1),(ld r hr).2⟩
  have g4a:=f1.e;have g0b:=f2.i;have g1b:=f2.a;have g2b:=f2.d;have qW:Wq ER 3 ((st.g (.J [.int .i64 0,.int .i64 0,.Ca,.Ca,.int .i64 0,.int .i64 0,.Ca] 58 false)).z st.a (some (.J (Wj c.a[k]) 58 false))) (.J b (0+k*(0+1)))=some (.int .i64 (oA out k)):=
   AA LJ D9 ((a4 b (by have:=gZ.k;omega)).trans sr) (by rw[Nat.zero_add,Nat.mul_one];exact yF (by omega))
  have hk57:k<out.length:=by omega
  subst hve;focus
   refine Ew U<|Sq ?_;refine Cd U (fun h7=>?_) (fun h7=>?_);refine Sk<|Sq<|Sb<|Es<|qm U<|Lq (kv U hp) U<|Lv 1 U<|Lo (kz U) U<|qa U<|Ln (kw U a1 U) U<|Ld<|Es<|Lo (kl U g4a U) U<|qm U ?_;refine Lq (kM U (by omega)) U ?_;refine Lo (AQ U U qW) U<|Lo (kz U) U<|Ln (kw U d1 U) U<|Ld<|Sq<|Es<|Lo (kl U d2 U) U<|Lw U ?_;refine Cd U (fun h8=>?_) (fun h8=>?_);refine Sx<|A0 U<|Sr ?_;refine Lq (ka (b:=1) U (by omega)) U ?_;refine Lw U ?_;rotate_left;refine Sk<|Sq ?_;rotate_left;exact absurd h7 (by omega)
  .exact⟨(k+1,out,rs,((((st.g (.J [.int .i64 0,.int .i64 0,.Ca,.Ca,.int .i64 0,.int .i64 0,.Ca] 58 false)).z st.a (some (.J (Wj c.a[k]) 58 false))).g (.J [.int .i64 0] 3 false)).z ((st.g (.J [.int .i64 0,.int .i64 0,.Ca,.Ca,.int .i64 0,.int .i64 0,.Ca] 58 false)).z st.a (some (.J (Wj c.a[k]) 58 false))).a (some (.J [.int .i64 (oA out k)] 3 false)))),⟨h,qY.u (by omega),f2,Zw,fun r hr=>⟨(mz r hr).1,(mz r hr).2.1,Nat.lt_succ_of_lt (Nat.lt_succ_of_lt (mz r hr).2.2)⟩,eL,fD⟩,by show c.a.length-(k+1)<c.a.length-k;omega,rfl,rfl,Ab (by repeat' constructor)⟩
  have nh:0<=oA out k:=by omega
  have hn60:oA out k<=60:=by
   rcases qY.a.e k with h|h
   .omega
   .exact h.2
  refine Cu.cut [(57,.bool (!XO c.a[k] (oA out k))),(10,.J (st.a+1) 0),(9,.J st.a 0),(8,.int .i64 (k:Nat)),(42,.int .i64 (k:Nat)),(41,.int .i64 (c.a.length:Nat)),(40,Cq Wj 7 c.a),(5,.J (XC.a+1) 0),(4,.J XC.a 0),(3,.J 2 0),(2,.J 1 0),(1,.J 0 0)] ((((st.g (.J [.int .i64 0,.int .i64 0,.Ca,.Ca,.int .i64 0,.int .i64 0,.Ca] 58 false)).z st.a (some (.J (Wj c.a[k]) 58 false))).g (.J [.int .i64 0] 3 false)).z ((st.g (.J [.int .i64 0,.int .i64 0,.Ca,.Ca,.int .i64 0,.int .i64 0,.Ca] 58 false)).z st.a (some (.J (Wj c.a[k]) 58 false))).a (some (.J [.int .i64 (oA out k)] 3 false))) ?_ ?_
  .have W6:=hc.g h;have hsf:=RZ (n:=oA out k) W6;have Xx:=hc.a.args _ (Ql h);have e10:((((st.g (.J [.int .i64 0,.int .i64 0,.Ca,.Ca,.int .i64 0,.int .i64 0,.Ca] 58 false)).z st.a (some (.J (Wj c.a[k]) 58 false))).g (.J [.int .i64 0] 3 false)).z ((st.g (.J [.int .i64 0,.int .i64 0,.Ca,.Ca,.int .i64 0,.int .i64 0,.Ca] 58 false)).z st.a (some (.J (Wj c.a[k]) 58 false))).a (some (.J [.int .i64 (oA out k)] 3 false))).b.g (st.a+1)=some (.J [.int .i64 (oA out k)] 3 false):=d2
   have Y8:∀s':St,s'.b=((((st.g (.J [.int .i64 0,.int .i64 0,.Ca,.Ca,.int .i64 0,.int .i64 0,.Ca] 58 false)).z st.a (some (.J (Wj c.a[k]) 58 false))).g (.J [.int .i64 0] 3 false)).z ((st.g (.J [.int .i64 0,.int .i64 0,.Ca,.Ca,.int .i64 0,.int .i64 0,.Ca] 58 false)).z st.a (some (.J (Wj c.a[k]) 58 false))).a (some (.J [.int .i64 (oA out k)] 3 false))).b->s'.a=((((st.g (.J [.int .i64 0,.int .i64 0,.Ca,.Ca,.int .i64 0,.int .i64 0,.Ca] 58 false)).z st.a (some (.J (Wj c.a[k]) 58 false))).g (.J [.int .i64 0] 3 false)).z ((st.g (.J [.int .i64 0,.int .i64 0,.Ca,.Ca,.int .i64 0,.int .i64 0,.Ca] 58 false)).z st.a (some (.J (Wj c.a[k]) 58 false))).a (some (.J [.int .i64 (oA out k)] 3 false))).a->∀r,Co ER 71 [.int .i64 r,.J (st.a+1) 0] s' (.bool (decide (oA out k<=r))):=fun s' h1 _ r=>over_to (by rw[h1];exact e10) r
   rw[<-hsf];obtain⟨o1,o2,o3,o4,o5,o6⟩:=FG (x:=c.a[k]);rcases hs:CO c.a[k]with⟨r,l⟩|l|_|_|⟨o,n',l⟩|r|_
   .refine Sr ?_;refine Lo (kL U e9 U) U ?_;refine Lo (kc U (Br)) U ?_;rw[hs];refine Lo (BX U U U U DR (by kernel_rfl) U (Co.XF (US))) U<|Lv 1 U<|Lo (A7 U U (by kernel_rfl) U (DW U U (p:=fun r=>decide (oA out k<=r)) (by kernel_rfl) Y8 [r] (Qc U))) U<|Ld ?_;exact⟨U,U,U,Ab (by repeat' constructor)⟩
   .refine Sr ?_;refine Lo (kL U e9 U) U ?_;refine Lo (kc U (Br)) U ?_;rw[hs];refine Lo (BX U U U U DQ (by kernel_rfl) U (Co.XF (hit_342))) U<|Lv 1 U<|Lo (A7 U U (by kernel_rfl) U (En U U)) U<|Ld ?_;exact⟨U,U,U,Ab (by repeat' constructor)⟩
   .refine Sr ?_;refine Lo (kL U e9 U) U ?_;refine Lo (kc U (Br)) U ?_;rw[hs];refine Lo (BX U U U U DN (by kernel_rfl) U (Co.XF (hit_345))) U<|Lv 1 U<|Lo (A7 U U (by kernel_rfl) U (En U U)) U<|Ld ?_;exact⟨U,U,U,Ab (by repeat' constructor)⟩
   .refine Sr ?_;refine Lo (kL U e9 U) U ?_;refine Lo (kc U (Br)) U ?_;rw[hs];refine Lo (BX U U U U DM (by kernel_rfl) U (Co.XF (hit_346))) U<|Lv 1 U<|Lo (A7 U U (by kernel_rfl) U (En U U)) U<|Ld ?_;exact⟨U,U,U,Ab (by repeat' constructor)⟩
   .refine Sr ?_;refine Lo (kL U e9 U) U ?_;refine Lo (kc U (Br)) U ?_;rw[hs];refine Lo (BX U U U U DP (by kernel_rfl) U (Co.XF (hit_343))) U<|Lv 1 U ?_;refine Lo (A7 U U (by kernel_rfl) U (DW U U (p:=fun r=>decide (oA out k<=r)) (by kernel_rfl) Y8 l (by rw[(o5 o n' l hs).2];exact Xx))) U ?_;refine Ld ?_;exact⟨U,U,U,Ab (by repeat' constructor)⟩
   .refine Sr ?_;refine Lo (kL U e9 U) U ?_;refine Lo (kc U (Br)) U ?_;rw[hs];refine Lo (BX U U U U DO (by kernel_rfl) U (Co.XF (UR))) U<|Lv 1 U<|Lo (A7 U U (by kernel_rfl) U (DW U U (p:=fun r=>decide (oA out k<=r)) (by kernel_rfl) Y8 [r] (Qc U))) U<|Ld ?_;exact⟨U,U,U,Ab (by repeat' constructor)⟩
   .have hi:=AY c k c.a[k];rw[W6,hs]at hi;cases hi
  .have e10b:=d2;have hsn:((((st.g (.J [.int .i64 0,.int .i64 0,.Ca,.Ca,.int .i64 0,.int .i64 0,.Ca] 58 false)).z st.a (some (.J (Wj c.a[k]) 58 false))).g (.J [.int .i64 0] 3 false)).z ((st.g (.J [.int .i64 0,.int .i64 0,.Ca,.Ca,.int .i64 0,.int .i64 0,.Ca] 58 false)).z st.a (some (.J (Wj c.a[k]) 58 false))).a (some (.J [.int .i64 (oA out k)] 3 false))).a=st.a+2:=rfl
   have ed:∀d,d<st.a->((((st.g (.J [.int .i64 0,.int .i64 0,.Ca,.Ca,.int .i64 0,.int .i64 0,.Ca] 58 false)).z st.a (some (.J (Wj c.a[k]) 58 false))).g (.J [.int .i64 0] 3 false)).z ((st.g (.J [.int .i64 0,.int .i64 0,.Ca,.Ca,.int .i64 0,.int .i64 0,.Ca] 58 false)).z st.a (some (.J (Wj c.a[k]) 58 false))).a (some (.J [.int .i64 (oA out k)] 3 false))).b.g d=st.b.g d:=fun d hd=>(d4 d (Nat.lt_succ_of_lt hd)).trans (a4 d hd);clear d1 d2 d3 d4 d5 d6 d7 a1 a2 a3 a4 a5 a6 a7 qW g4a f1
   have hS2:(((((st.g (.J [.int .i64 0,.int .i64 0,.Ca,.Ca,.int .i64 0,.int .i64 0,.Ca] 58 false)).z st.a (some (.J (Wj c.a[k]) 58 false))).g (.J [.int .i64 0] 3 false)).z ((st.g (.J [.int .i64 0,.int .i64 0,.Ca,.Ca,.int .i64 0,.int .i64 0,.Ca] 58 false)).z st.a (some (.J (Wj c.a[k]) 58 false))).a (some (.J [.int .i64 (oA out k)] 3 false))).z 1 (some (.J [.Ca] 26 false))).b.g 2=some (.J [.bool false] 4 false):=by rw[Ah,if_neg (by decide)];exact g2b
   generalize ((((st.g (.J [.int .i64 0,.int .i64 0,.Ca,.Ca,.int .i64 0,.int .i64 0,.Ca] 58 false)).z st.a (some (.J (Wj c.a[k]) 58 false))).g (.J [.int .i64 0] 3 false)).z ((st.g (.J [.int .i64 0,.int .i64 0,.Ca,.Ca,.int .i64 0,.int .i64 0,.Ca] 58 false)).z st.a (some (.J (Wj c.a[k]) 58 false))).a (some (.J [.int .i64 (oA out k)] 3 false)))=XW at*;focus
    refine Cn U (fun h9=>?_) (fun h9=>?_);refine Es ?_;iterate 2 refine Ln (kw U ‹_› U) U ?_
    refine Ld ?_;rotate_left;refine Sk<|Es<|Lo (kL U g0b U) U<|qm U<|Lo (kl U e10b U) U ?_;rotate_left
   .refine Se ?_;have h4r:4<=XC.a:=h4;exact VE (rs:=rs) U Zw (fun r hr=>⟨by rw[Ah,if_neg (by have:=mz r hr;omega),Ah,if_neg (by have:=mz r hr;omega)];exact(mz r hr).1,by have:=mz r hr;omega⟩) U U (by rw[Ah,if_neg (by decide),Ah,if_pos rfl]) (by rw[Ah,if_pos rfl]) eL ((Bv (show(XW.z 1 _).c=0 from eL)).trans ((Bv eL).trans fD)) (qY.g h nh (by rw[B2 h];assumption))
   refine kf U (PO ?_);intro Y7 hn3 hx1 hx2 hx3 hch3;have hbc:=gZ.k;have hold3:∀d,d<XW.a->Y7.b.g d=XW.b.g d:=fun d hd=>hch3.b d hd (fun h=>h);have qI:Y7.c=0:=hch3.a.trans eL;have zM:Y7.d=[]:=List.eq_nil_iff_forall_not_mem.2 fun x hx=>by
    rcases hch3.e x hx with h|⟨_,h⟩
    .rw[fD]at h;cases h
    .exact h
   have f3:bg c (.Z b 0 out.length 1 (some out.length)) XC.a (XC.a+1) out Y7.a Y7.b:=f2.g (by omega) hold3;have hrs3:∀r∈rs,Y7.b.g r=some (.Z true)/\XC.a+1<r/\r<XW.a:=fun r hr=>⟨(hold3 r (by have:=mz r hr;omega)).trans (mz r hr).1,(mz r hr).2.1,by have:=mz r hr;omega⟩;refine Ld<|Sb ?_;refine LQ U U (by kernel_rfl) fun T hT=>?_;refine Wm.mono (Vn hc h ⟨nh,hn60⟩ _ T _ _ _ qY.z f3 hx1 hx2 hx3 hrs3 (by omega) (by omega) ?_) ?_
   .intro qj j hj st eJ kD iw;rcases hq:(Wc c k c.a[k] (oA out k))[j]with⟨a,r⟩
    have XU:=Fj hc (hc.g h) h nh (Ql hj);rw[hq]at XU;obtain⟨kk,rfl⟩:∃kk:Nat,a=kk:=⟨a.toNat,by have:=XU.1;dsimp only at this;omega⟩
    dsimp only;have e:Y6 c k=c.a[k]:=B2 h;have hj':j<(Wc c k (Y6 c k) (oA out k)).length:=by rw[e];exact hj
    have hq':(Wc c k (Y6 c k) (oA out k))[j]=(((kk:Nat):Int),r):=by simp only[e];exact hq
    have o1:=iw.i;have o2:=iw.u;have o3:=iw.p;have fk:Y7.a+1<st.c:=by omega
    refine⟨_,_,_,iw.f,U,(hT.put 62 _).put 63 _,?_⟩;refine Ew U<|Sr<|Lw U ?_;refine⟨U,_,iw.f,U,?_⟩;generalize hlpb:({lp0 _ T _ _ _ with a:= .busy}:bV)=lpb;generalize mX:some (CG.O lpb)=ob;have Zx:∀d,d≠Y7.a+1->(st.z (Y7.a+1) ob).b.g d=st.b.g d:=fun d hd=>by rw[Ah,if_neg hd]
    have hself:(st.z (Y7.a+1) ob).b.g (Y7.a+1)=ob:=by rw[Ah,if_pos rfl]
    have hbx:bg c (.Z b 0 out.length 1 (some out.length)) XC.a (XC.a+1) qj (st.z (Y7.a+1) ob).a (st.z (Y7.a+1) ob).b:=iw.d.u fun d hd=>Zx d (by omega);have htold:Am.G' st (st.z (Y7.a+1) ob):=Am.G'.refl.put rfl _ _;have hmemx:Y7.a+1∈(st.z (Y7.a+1) ob).d:=AL fk;have hlogx:∀d∈(st.z (Y7.a+1) ob).d,d∈st.d\/d<st.c:=fun d hd=>(BP hd).imp id And.right;have mA:(st.z (Y7.a+1) ob).c=st.c:=rfl;have hnxx:(st.z (Y7.a+1) ob).a=st.a:=rfl;generalize st.z (Y7.a+1) ob=stx at*;have g4x:=hbx.e;have g5x:=hbx.l;refine Sb<|Es<|Lo (kl U g5x U) U<|Lv 2 U ?_;refine Dy (by kernel_rfl) U U U U U U U U (Wm.mono (Uc (st:=stx) (out:=qj) g4x hbx.z (by rw[iw.a.d.d];omega) kk r) ?_);rintro w s2 (⟨rfl,hr,rfl⟩|⟨rfl,hr,hO2,ed,dx,fD⟩)
    .have hS1:=hbx.a;have hS2':(s2.z 1 (some (.J [.Ca] 26 false))).b.g 2=some (.J [.bool false] 4 false):=by rw[Ah,if_neg (by decide)];exact hbx.d
     refine Lw U<|Tt U<|Es ?_;iterate 2 refine Ln (kw U ‹_› U) U ?_
     refine Ld<|Se ?_;have hn:∀x:Option CG,(((s2.z 1 (some (.J [.Ca] 26 false))).z 2 (some (.J [.bool false] 4 false))).z (Y7.a+1) x).c=s2.c:=fun _=>rfl;have ht:∀x,Am.G' st (((s2.z 1 (some (.J [.Ca] 26 false))).z 2 (some (.J [.bool false] 4 false))).z (Y7.a+1) x):=fun x=>((htold.put mA _ _).put mA _ _).put mA _ _;have hg:∀x d,d≠1->d≠2->d≠Y7.a+1->(((s2.z 1 (some (.J [.Ca] 26 false))).z 2 (some (.J [.bool false] 4 false))).z (Y7.a+1) x).b.g d=st.b.g d:=fun x d h1 h2 h3=>by
      rw[Ah,if_neg h3,Ah,if_neg h2,Ah,if_neg h1];exact Zx d h3
     refine⟨rfl,lpb,by rw[Ah,if_neg (by omega),Ah,if_neg (by omega),hself,mX],Nat.le_of_eq hnxx.symm,mA,AL (by show Y7.a+1<s2.c;rw[mA];exact fk),?_,ht _,(fun h=>by cases h),fun _=>⟨?_,?_,fun r hr=>⟨(hg _ r (by have:=(iw.b r hr).2;omega) (by have:=(iw.b r hr).2;omega) (by have:=(iw.b r hr).2;omega)).trans (iw.b r hr).1,(iw.b r hr).2⟩,(hg _ _ (by omega) (by omega) (by omega)).trans iw.e,⟨_,by rw[Ah,if_pos rfl],rfl,rfl⟩,?_,h4,o2,by show Y7.a+1<s2.a;omega,o1⟩⟩
     .intro d hd;rcases BP hd with hd|⟨_,hd⟩
      .rcases BP hd with hd|⟨_,hd⟩
       .rcases BP hd with hd|⟨_,hd⟩
        .exact hlogx d hd
        .exact .inr (by rw[<-mA];exact hd)
       .exact .inr (by rw[<-mA];exact hd)
      .exact .inr (by rw[<-mA];exact hd)
     .rw[Ah,if_neg (by omega),Ah,if_neg (by decide),Ah,if_pos rfl]
     .rw[Ah,if_neg (by omega),Ah,if_pos rfl]
     .have qk:=iw.a;exact qk.z hc h nh (p:=((kk:Nat),r)) (by rw[<-hq'];exact Ql hj') hr
    .have oR:∀d,XC.a<=d->d<stx.a->s2.b.g d=stx.b.g d:=fun d hd C5=>ed.b d C5 (hbx.own (.inr hd));have tX:s2.c=st.c:=ed.a.trans mA;have ht2:∀x,Am.G' st (s2.z (Y7.a+1) x):=fun x d hd Xo=>by
      have Yh:d≠Y7.a+1:=fun e=>by
       subst e;exact Xo (AL (by rw[tX];exact hd))
      rw[Ah,if_neg Yh,fD d (by rw[mA];exact hd) fun hm=>Xo (AZ hm)];exact Zx d Yh
     have hself2:s2.b.g (Y7.a+1)=some (.O lpb):=(oR _ (by omega) (by omega)).trans (hself.trans mX.symm);refine Lw U<|Tf U<|Sk ?_;have eO:=LU hbx hO2 ed dx;refine⟨U,lpb,hself2,?_⟩;show YesQ _ _ _ _ _ _ _ _ _ _ _ true (s2.z (Y7.a+1) (some (.O {lpb with a:= .ready,b:=none})));subst hlpb;refine⟨by show st.a<=s2.a;omega,tX,AL (by rw[tX];exact fk),?_,ht2 _,fun _=>⟨qj.set kk r,?_,eO.u (fun d hd=>by show(s2.z _ _).b.g d=_;rw[Ah,if_neg (by omega)]),?_,?_,?_,fun q hq=>?_,?_,?_,o1,o2,by show Y7.a+1<s2.a;omega⟩,(fun h=>by cases h)⟩
     .intro d hd;rcases BP hd with hd|⟨_,hd⟩
      .rcases ed.e d hd with hd|⟨hd,_⟩
       .exact hlogx d hd
       .exact .inr (by rw[<-mA];exact hd)
      .exact .inr (by rw[<-tX];exact hd)
     .have qk:=iw.a.u hc h nh hj' (by rw[hq'];exact hr);rw[hq']at qk;exact qk
     .rw[Ah,if_neg (by omega),oR _ (by omega) (by omega),Zx _ (by omega)];exact iw.l
     .rw[Ah,if_neg (by omega),oR _ (by omega) (by omega),Zx _ (by omega)];exact iw.m
     .rw[Ah,if_neg (by omega),oR _ (by omega) (by omega),Zx _ (by omega)];exact iw.o
     .have:=iw.b q hq;refine⟨?_,this.2⟩;rw[Ah,if_neg (by omega),oR _ (by omega) (by omega),Zx _ (by omega)];exact this.1
     .rw[Ah,if_neg (by omega),oR _ (by omega) (by omega),Zx _ (by omega)];exact iw.e
     .rw[Ah,if_pos rfl];rfl
   .rintro w s4 ⟨e1,e2,e3,hCD⟩;have hb4:s4.c=0:=e1.trans qI;have hl4:s4.d=[]:=by
     rcases e2 with h|⟨M,h⟩
     .exact h.trans zM
     .rw[h];show below Y7.c M Y7.d=[]
      rw[qI,LH,zM]
    have Xd:XO (Y6 c k) (oA out k)=true:=by rw[B2 h];assumption
    rcases hCD with⟨o,iw⟩|yQ
    .have o1:=iw.i;have o2:=iw.u;have o3:=iw.p;refine⟨_,iw.f,(fun h=>by cases h),?_⟩;show Cu ER _ _ _ _ _;refine Sr ?_;refine Lq (ka (b:=1) U (by omega)) U ?_;refine Lw U ?_;have qk:=iw.a;rw[<-B2 h]at qk;refine⟨(k+1,o,Y7.a::rs,s4.z (Y7.a+1) (some (.O {lp0 _ T _ _ _ with a:= .exhausted}))),⟨h,qk.A Xd,iw.d.u (fun d hd=>by show(s4.z _ _).b.g d=_;rw[Ah,if_neg (by omega)]),List.nodup_cons.2 ⟨fun hr=>by have:=(iw.b _ hr).2.2;omega,Zw⟩,fun r hr=>?_,hb4,(Bv hb4).trans hl4⟩,by show c.a.length-(k+1)<c.a.length-k;omega,rfl,rfl,Ab (by repeat' constructor)⟩;show(s4.z _ _).b.g r=_/\_/\r<s4.a;rcases Qk.1 hr with rfl|hr
     .exact⟨by rw[Ah,if_neg (by omega)];exact iw.e,by omega,by omega⟩
     .have:=iw.b r hr;exact⟨by rw[Ah,if_neg (by omega)];exact this.1,by omega,by omega⟩
    .obtain⟨lp,l1,l2,l3⟩:=yQ.lp;have o1:=yQ.b;have o2:=yQ.u;have o3:=yQ.o3;have o4:=yQ.d;refine⟨lp,l1,(by rw[l2];intro h;cases h),?_⟩;rw[l3]
     skip
     refine VE (rs:=Y7.a::rs) U (List.nodup_cons.2 ⟨fun hr=>by have:=(yQ.a _ hr).2.2;omega,Zw⟩) (fun r hr=>?_) U U (by rw[Ah,if_neg (by omega)];exact yQ.g1) (by rw[Ah,if_neg (by omega)];exact yQ.g2) hb4 ((Bv hb4).trans hl4) yQ.no;rcases Qk.1 hr with rfl|hr
     .exact⟨by rw[Ah,if_neg (by omega)];exact yQ.df,by omega⟩
     .have:=yQ.a r hr;exact⟨by rw[Ah,if_neg (by omega)];exact this.1,by omega⟩
 .obtain rfl:k=c.a.length:=by omega
  have hsol:=qY.A;have g4:=gZ.e;have h4r:4<=XC.a:=h4;focus
   refine Ew U<|Sq ?_;refine Cd U (fun h7=>?_) (fun h7=>?_);exact absurd h7 (by omega);refine Sx<|A0 U<|Es<|Lo (kl U g4 U) U ?_;rotate_left
  refine Ln (BL (s':=st.z 1 (some (.J [v] 26 false))) U Iy U U (BH gZ.a si.2.1 si.1 si.2.2)) U ?_;have hS2:(st.z 1 (some (.J [v] 26 false))).b.g 2=some (.J [.bool false] 4 false):=by rw[Ah,if_neg (by decide)];exact gZ.d
  refine Ln (kw U hS2 U) U<|Ld<|Se ?_;refine bef_yes (rs:=rs) (out:=out) U Zw (fun r hr=>⟨by rw[Ah,if_neg (by have:=ld r hr;omega),Ah,if_neg (by have:=ld r hr;omega)];exact(ld r hr).1,by have:=ld r hr;omega⟩) U U (by rw[Ah,if_neg (by decide),Ah,if_pos rfl]) (by rw[Ah,if_pos rfl]) ?_ hb ((Bv (show(st.z 1 _).c=0 from hb)).trans ((Bv hb).trans Yc)) (It hsol);rcases gZ.f with h|⟨b,e1,e2,e3,e4,e5⟩
  .exact .inl h
  .exact .inr ⟨b,e1,by rw[Ah,if_neg (by omega),Ah,if_neg (by omega)];exact e4,e5,fun hr=>by have:=ld b hr;omega⟩
abbrev zO:= {c:Cj//ZT c}
theorem IB {p q:zO} (h:([.O (CJ p.1)]:List AV)=[.O (CJ q.1)]):p=q:=by
 obtain⟨a,_⟩:=p;obtain⟨b,_⟩:=q;obtain rfl:=Hi (List.cons.inj h).1;rfl
noncomputable def K19:=WA RG 34 (fun p:zO=>[.O (CJ p.1)]) (fun p=>W4 p.1)
noncomputable def K20:=WA K19 35 (fun p:zO=>[.O (CJ p.1)]) (fun p=>W4 p.1)
theorem Gm {c:Cj} (h:ZT c):K19 34 [.O (CJ c)]=some (W4 c):=
 Ak (enc:=fun p:zO=>[.O (CJ p.1)]) (fun p q h=>by rw[IB h]) ⟨c,h⟩
theorem Gl {c:Cj} (h:ZT c):K20 35 [.O (CJ c)]=some (W4 c):=
 Ak (enc:=fun p:zO=>[.O (CJ p.1)]) (fun p q h=>by rw[IB h]) ⟨c,h⟩
theorem all20 (h:Wh Tryz.prog 10 [] (.bool true)):C6 Tryz.prog K20:=
 AG (Aw Au (all18e h) (fun p:zO=>VD p.1 p.2) (fun _=>rfl) (fun _=>Gp _)) fun p=>BM Au (all17 h) (Sj p.1 p.2) rfl (Gp _)
theorem fits_of {c:Cj} (h:XI c=true):r_ c:=by
 unfold XI at h;rw[Qf,Qf]at h;obtain⟨⟨h1,h2⟩,h3⟩:=h;rw[Bool.not_eq_true',Bool.or_eq_false_iff,decide_eq_false_iff_not,decide_eq_false_iff_not]at h2;unfold Yu at h1;rw[Qf,Qf,Bool.not_eq_true',Bool.or_eq_false_iff,decide_eq_false_iff_not,decide_eq_false_iff_not]at h1;obtain⟨⟨h4,h5⟩,h6,h7⟩:=h1;have W6:∀x∈c.a,x.b.length<=4000/\x.d.length<=4000/\x.args.length<=4000:=fun x hx=>by
  obtain⟨i,hi,rfl⟩:=List.mem_iff_getElem.1 hx;have:=GJ h3 hi;rw[B2 hi]at this;unfold fE at this;rw[Bool.not_eq_true',Bool.or_eq_false_iff,Bool.or_eq_false_iff,decide_eq_false_iff_not,decide_eq_false_iff_not,decide_eq_false_iff_not]at this;omega
 have lU:∀l:List Cw,Ze l l.length=true->∀p∈l,p.1.length<=4000:=fun l hs p hp=>by
  unfold Ze at hs;rw[List.take_length]at hs;have:=dT (List.all_eq_true.1 hs p hp);omega
 exact⟨by omega,by omega,by omega,by omega,fun x hx=>(W6 x hx).1,fun x hx=>(W6 x hx).2.1,fun x hx=>(W6 x hx).2.2,lU _ h6,lU _ h7⟩
theorem Lp:K0 10 []=some (.bool true):=rfl
end Go.Proofs.YtpihdbhocgcbpaaGreatDoor
