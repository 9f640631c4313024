/- Types: printing a type; the law of types. -/
import Derived.Test.YtfhimfcbphepeaaGreatDoorCdA
import Derived.Test.YtfhimfcbphepeaaGreatDoorCdF
import Derived.Test.YtfhimfcbphepeaaGreatDoorAmG
set_option linter.unusedSectionVars false
set_option linter.unusedVariables false
set_option linter.unusedSimpArgs false
open Go Am
namespace Go.Proofs.YtfhimfcbphepeaaGreatDoor.Ty
abbrev RdT:= {p:List DT×X4//CD p.1=true/\p.2.length<=4000}
def jy (p:RdT):List AV:=[We p.1.1,.str p.1.2]
theorem Oq (x y:RdT) (h:jy x=jy y):x=y:=by
 obtain⟨⟨a,b⟩,_⟩:=x;obtain⟨⟨a',b'⟩,_⟩:=y;simp only[jy,List.cons.injEq,AV.str.injEq,and_true]at h;obtain rfl:=EG h.1;obtain rfl:=h.2;rfl
noncomputable def M1:=W7 LF 9 jy (fun p=>resTy (Z1 p.1.1 p.1.2))
noncomputable def M2:=W7 M1 10 jy (fun p=>resTy (Z1 p.1.1 p.1.2))
noncomputable def M3:=W7 M2 11 lb (fun p=>jB (VX p.1.1 p.1.2))
theorem hq_9 {ds:List DT} {w:X4} (h1:CD ds=true) (h2:w.length<=4000):M1 9 [We ds,.str w]=some (resTy (Z1 ds w)):=An (enc:=jy) (fun a b h=>by rw[Oq a b h]) ⟨(ds,w),h1,h2⟩
theorem hq_10 {ds:List DT} {w:X4} (h1:CD ds=true) (h2:w.length<=4000):M2 10 [We ds,.str w]=some (resTy (Z1 ds w)):=An (enc:=jy) (fun a b h=>by rw[Oq a b h]) ⟨(ds,w),h1,h2⟩
theorem hq_11 {ds:List DT} {t:KT} (hs:CD ds=true) (ht:X3 t=true):M3 11 [We ds,.agg (Cm t)]=some (jB (VX ds t)):=An (enc:=lb) (fun a b h=>by rw[Oo a b h]) ⟨(ds,t),hs,ht⟩
theorem HV (r:Except Int KT):Cj 40 (resTy r)=true:=by
 cases r with
 |error e=>rfl
 |ok T=>show((W4 T).all (Cj 38)&&true)=true;rw[Gk T 37];rfl
theorem allM (h:Wq Tryz.prog 8 [] (.bool true)):Cq Tryz.prog gn M3:=by
 have ha:∀p:RdT,(jy p).all (Cj 40)=true:=fun p=>rfl;have a1:Cq Tryz.prog gn M1:=A3 Ax Aj (allF h) (fun p:RdT=>xL p.1.1 p.1.2 p.2.1 p.2.2) ha (fun p=>HV _);have a2:Cq Tryz.prog gn M2:=A7 a1 fun p:RdT=>AP Ax Aj (allF h) (xM p.1.1 p.1.2 p.2.1 p.2.2) (ha p) (HV _);exact A7 a2 fun p:RpT=>AP Ax Aj (allF h) (xR p.1.1 p.1.2 p.2.1 p.2.2) (by
  show(Cj 40 (We p.1.1)&&(AV.agg (Cm p.1.2)::[]).all (Cj 40))=true;rw[Ed,Br _ _ rfl];rfl) rfl
theorem RB (ds:List DT) (w:X4):∃T e,resTy (Z1 ds w)= .tuple [.agg (W4 T),.int .i64 e]/\Wa T<=1000:=by
 cases h:Z1 ds w with
 |error e=>exact⟨.mk 0 0 [],e,rfl,by decide⟩
 |ok T=>
  refine⟨T,0,U,?_⟩;have:=xK h;have h1:=dT (Bool.and_eq_true_iff.1 this).1;have:=Gr T 20 h1;omega
theorem law_to (ds:List DT) (w:X4) (t:KT):Cc (EK M3) 3 [We ds,.str w,.agg (Cm t)] S0 (.bool true):=by
 have ee:=AA t;have jz:M3 8 []=some (.bool true):=rfl;have hit_6:M3 6 [We ds]=some (.bool (CD ds)):=hq_6;have my:M3 7 [.agg (Cm t)]=some (.bool (X3 t)):=hq_7;obtain⟨T,e,hr,hT⟩:=RB ds w;have H1:CD ds=true->w.length<=4000->M3 9 [We ds,.str w]=some (.tuple [.agg (W4 T),.int .i64 e]):=fun h1 h2=>by rw[<-hr];exact hq_9 h1 h2
 have H2:CD ds=true->w.length<=4000->M3 10 [We ds,.str w]=some (.tuple [.agg (W4 T),.int .i64 e]):=fun h1 h2=>by rw[<-hr];exact hq_10 h1 h2
 have H3:CD ds=true->X3 t=true->M3 11 [We ds,.agg (Cm t)]=some (.tuple [.str (VX ds t).1,.int .i64 (VX ds t).2]):=fun h1 h2=>hq_11 h1 h2;have H4:CD ds=true->X3 t=true->M3 12 [We ds,.agg (Cm t)]=some (.tuple [.str (VX ds t).1,.int .i64 (VX ds t).2]):=fun h1 h2=>hq_12 h1 h2;have jj:M3 13 [.agg (W4 T),.agg (W4 T)]=some (.bool true):=hq_13 hT;have eo:=BH T;obtain⟨pw,pe⟩:=VX ds t;rw[ee]at my H3 H4|-;rw[eo]at H1 H2 jj;generalize CD ds=B1 at*;generalize X3 t=B2 at*;refine As U ?_;have hpw:Cp pw pw=true:=by rw[AB];exact decide_eq_true rfl
 focus
  refine Eh U<|Sq<|Es<|qm U<|AT (fn:=Tryz.f5) (by kernel_rfl) (by kernel_rfl) U U U U U U U U U U U<|Ew U<|Es<|qm U<|Lq (Ac U U U U CT U) U<|Lv 2 U ?_;refine Bd U (fun h1=>?_) (fun h1=>?_);refine Lv 1 U<|Lh U U (Ac U U U U CT U)<|Lv 3 U ?_;refine Bd U (fun h2=>?_) (fun h2=>?_);refine Lw U ?_;refine Se (Al (Xw.same U (Aa U U) U U U U ?_));refine Lw U<|Tt U<|Es ?_;refine Lo (kc U (jz)) U<|Lw U ?_;refine Se (Er U ?_);exact Ab U;refine Lv 1 U<|Lh U U (Ac U U U U CT U)<|Lw U ?_;refine Se (Al (Xw.same U (Aa U U) U U U U ?_));refine qm U ?_;refine Bd U (fun h3=>?_) (fun h3=>?_);refine Lw U<|Tt U<|Es ?_;refine Lo (kc U (jz)) U<|Lw U ?_;refine Se (Er U ?_);exact Ab U;refine Lv 1 U ?_;refine Lg U U (kc U (hit_6))<|Lv 3 U ?_;refine Bn U (fun h4=>?_) (fun h4=>?_);refine Lw U<|Tt U<|Es ?_;refine Lo (kc U (jz)) U<|Lw U ?_;refine Se (Er U ?_);exact Ab U;refine Ls 1 U ?_
  refine Lg U U (kc U (my))<|Lw U ?_;refine Cn U (fun h5=>?_) (fun h5=>?_);refine Es ?_;refine Lo (kc U (jz)) U<|Lw U ?_;refine Se (Er U ?_);exact Ab U;refine Sk<|Es<|Lv 2 U ?_;rotate_left;refine Lv 6 U<|Lh U U (Ac U U U U CT U)<|Lw U ?_;refine Se (Al (Xw.same U (Aa U U) U U U U ?_));refine qm U ?_;refine Bd U (fun h6=>?_) (fun h6=>?_);exact absurd h6 (by omega);refine Lv 1 U ?_;refine Lg U U (kc U (hit_6))<|Lv 3 U ?_;refine Bn U (fun h7=>?_) (fun h7=>?_);refine Lw U<|Tt U<|Es ?_;refine Lo (kc U (jz)) U<|Lw U ?_;refine Se (Er U ?_);exact Ab U;refine Ls 1 U ?_;refine Lg U U (kc U (my))<|Lw U ?_;refine Cn U (fun h8=>?_) (fun h8=>?_);refine Es ?_;refine Lo (kc U (jz)) U<|Lw U ?_;refine Se (Er U ?_);exact Ab U;refine Sk<|Es<|Lv 2 U ?_;rotate_left
 .have xS:=H1 h4 (by omega);have qJ:=H2 h4 (by omega);have qK:=H3 h4 h5;have qL:=H4 h4 h5;focus
   refine Lo (kc U (xS)) U<|Lx U<|Es<|Lv 2 U ?_;refine Lo (kc U (qJ)) U<|Lx U<|Es<|Ls 2 U ?_;refine Lo (kc U (qK)) U<|Lw U<|Es<|Ls 2 U ?_;refine Lo (kc U (qL)) U<|Lw U<|Es<|Lv 4 U ?_;refine Bd U (fun h6=>?_) (fun h6=>?_);refine Ls 2 U ?_;refine Lg U U (kc U (jj))<|Lv 7 U ?_;refine Bd U (fun h7=>?_) (fun h7=>?_);refine Lv 2 U<|Lh U U (A2 U CT U U U U)<|Lv 2 U ?_;refine Bb U (fun g8=>?_) (fun g8=>?_);have h8:=bT g8;refine Lg U U (kc U (jz))<|Lw U ?_;refine Se (Er U ?_);exact Ab U;have h8:=bF g8;refine Lw U ?_;refine Se (Er U ?_);refine Ab ?_;rotate_left;exact absurd h7 (by omega);exact absurd h6 (by omega)
  exact absurd U ‹(VX ds t).1≠(VX ds t).1›
 .have xS:=H1 h7 (by omega);have qJ:=H2 h7 (by omega);have qK:=H3 h7 h8;have qL:=H4 h7 h8;focus
   refine Lo (kc U (xS)) U<|Lx U<|Es<|Lv 2 U ?_;refine Lo (kc U (qJ)) U<|Lx U<|Es<|Ls 2 U ?_;refine Lo (kc U (qK)) U<|Lw U<|Es<|Ls 2 U ?_;refine Lo (kc U (qL)) U<|Lw U<|Es<|Lv 4 U ?_;refine Bd U (fun h9=>?_) (fun h9=>?_);refine Ls 2 U ?_;refine Lg U U (kc U (jj))<|Lv 7 U ?_;refine Bd U (fun yn=>?_) (fun yn=>?_);refine Lv 2 U<|Lh U U (A2 U CT U U U U)<|Lv 2 U ?_;refine Bb U (fun g11=>?_) (fun g11=>?_);have h11:=bT g11;refine Lg U U (kc U (jz))<|Lw U ?_;refine Se (Er U ?_);exact Ab U;have h11:=bF g11;refine Lw U ?_;refine Se (Er U ?_);refine Ab ?_;rotate_left;exact absurd yn (by omega);exact absurd h9 (by omega)
  exact absurd U ‹(VX ds t).1≠(VX ds t).1›
end Go.Proofs.YtfhimfcbphepeaaGreatDoor.Ty
open Go Am
namespace Am
theorem V5 {P:Program} {nt nf:Nat} {F:FuncId->Nat} {K:FuncId->List AV->Option AV} {gl:kU} (hp:Z6 P nt nf) (hK:Cq P gl K) {f:FuncId} {args:List AV} {b:Bool} (zI:K f args=none) (h:Cc (kV P nt nf F K gl) f args S0 (.bool b))
 {w:World} {xs:Array Value} (hg:GlobS gl (Cx.memory w)) (ha:Wc (Cx.memory w) args xs.toList):Calls P f xs w fun e w'=>e= .returned (.bool b)/\Go.RowKit.Below w.heap.size w w':=by
 have Z4:∀b o,¬S0.heap.get b=some o:=fun b o hb=>by rw[show S0.heap= .nil from rfl,AM]at hb;cases hb
 obtain⟨N,h⟩:=h;have hc:=J6 (P8 (F:=F) (K:=K) (gl:=gl) hp) (QS hp) (Of hK) (n:=N) (f:=f) (args:=args) (v:= .bool b) zI (h N (Qj _)) (C:=Cx.memory w) (w:=w) (xs:=xs) hg ha (Ul w);intro cs;obtain⟨e,w',fr,⟨C2,x,Zs,t,hv⟩,h2,h3,h4⟩:=hc cs;refine⟨e,w',fr,⟨?_,⟨t.YQ.2.1,t.YQ.1,t.YQ.2.2,t.size,fun k hk=>t.frame k hk fun b o hb=>absurd hb (Z4 b o)⟩⟩,h2,h3,h4⟩;cases hv;exact Zs
end Am
namespace Go.Proofs.YtfhimfcbphepeaaGreatDoor.Ty
theorem xU {P:Program} {t:TypeId} {l:List AV} (h:Am.Data P t l) (hu:P.underlying t=some .string):∃w,l=[.str w]:=by
 cases h with
 |str h=>exact⟨_,rfl⟩
 |bool h|int h|sl h|st h=>rw[hu]at h;cases h
section
variable {P : Program}
theorem ME {t:TypeId} {k:IntKind} {l:List AV} (h:Am.Data P t l) (hu:P.underlying t=some (.int k)):∃n,l=[.int k n]:=by
 cases h with
 |int h=>rw[hu]at h;cases h;exact⟨_,rfl⟩
 |bool h|str h|sl h|st h=>rw[hu]at h;cases h
theorem data_sl {t e:TypeId} {l:List AV} (h:Am.Data P t l) (hu:P.underlying t=some (.slice e)):∃ls:List (List AV),l=[.Cf ls.flatten ls.length (P.cellsOf e) true]/\∀x∈ls,Am.Data P e x:=by
 cases h with
 |sl h hn hl hd=>rw[hu]at h;cases h;exact⟨_,rfl,hd⟩
 |bool h|int h|str h|st h=>rw[hu]at h;cases h
theorem data_st {t:TypeId} {fs:Array Field} {l:List AV} (h:Am.Data P t l) (hu:P.underlying t=some (.struct fs)):∃ls:List (List AV),l=ls.flatten/\ls.length=fs.toList.length/\∀(i:Nat) f x,fs.toList[i]?=some f->ls[i]?=some x->Am.Data P f.type x:=by
 cases h with
 |st h hl hd=>rw[hu]at h;cases h;exact⟨_,rfl,hl,hd⟩
 |bool h|int h|str h|sl h=>rw[hu]at h;cases h
theorem Ms {α:Type} {enc:α->List AV}:∀ {ls:List (List AV)},(∀l∈ls,∃a,l=enc a)->∃xs:List α,ls=xs.map enc
 | [],_=>⟨[],rfl⟩
 |l::ls,h=>by
  obtain⟨a,rfl⟩:=h l (Qh ..);obtain⟨xs,rfl⟩:=Ms (ls:=ls) fun x hx=>h x (Qg _ hx);exact⟨a::xs,U⟩
theorem O0 {α:Type} {enc:α->List AV} {t e:TypeId} {k:Nat} {l:List AV} (h:Am.Data P t l) (hu:P.underlying t=some (.slice e)) (hk:P.cellsOf e=k) (hd:∀x,Am.Data P e x->∃a,x=enc a):∃xs:List α,l=[CM enc k xs]:=by
 obtain⟨ls,rfl,hm⟩:=data_sl h hu;obtain⟨xs,rfl⟩:=Ms fun x hx=>hd x (hm x hx);refine⟨xs,?_⟩;unfold CM;rw[hk,List.length_map,List.flatMap_def]
end
noncomputable def fieldsOf (t:TypeId):Array Field:=match Tryz.prog.underlying t with
 |some (.struct fs)=>fs
 |_=> #[]
noncomputable def xV (t:TypeId) (i:Nat):Option TypeId:=((fieldsOf t).toList[i]?).map Field.type
theorem Ee {t:TypeId} {ls:List (List AV)} (hd:∀(i:Nat) f x,(fieldsOf t).toList[i]?=some f->ls[i]?=some x->Am.Data Tryz.prog f.type x) {i:Nat} {u:TypeId} {x:List AV} (h:xV t i=some u) (hx:ls[i]?=some x):Am.Data Tryz.prog u x:=by
 unfold xV at h;obtain⟨f,hf,rfl⟩:=Option.map_eq_some_iff.1 h;exact hd i f x hf hx
theorem SZ:Tryz.prog.underlying 26=some (.struct (fieldsOf 26)):=by kernel_rfl
theorem OY:Tryz.prog.underlying 24=some (.slice 26):=by kernel_rfl
theorem Vu {t:TypeId} {x:List AV} (h:Am.Data Tryz.prog t x):(t=26->∃u,x=Cm u)/\(t=24->∃us,x=[CM Cm 3 us]):=by
 induction h with
 |bool h|int h|str h=>
  refine⟨fun e=>?_,fun e=>?_⟩
  .subst e;rw[SZ]at h;cases h
  .subst e;rw[OY]at h;cases h
 |sl h hn hl hd ih=>
  refine⟨fun e=>(by subst e;rw[SZ]at h;cases h),fun e=>?_⟩;subst e;rw[OY]at h;cases h;obtain⟨xs,rfl⟩:=Ms (enc:=Cm) fun l hl=>(ih l hl).1 rfl;refine⟨xs,?_⟩;unfold CM;rw[show Tryz.prog.cellsOf 26=3 by kernel_rfl,List.length_map,List.flatMap_def]
 |st h hl hd ih=>
  refine⟨fun e=>?_,fun e=>(by subst e;rw[OY]at h;cases h)⟩;subst e;rw[SZ]at h;obtain rfl:=TypeDesc.struct.inj (Option.some.inj h);rw[show(fieldsOf 26).toList.length=3 by kernel_rfl]at hl;rename_i ls
  obtain⟨a,b,c,rfl⟩:∃a b c,ls=[a,b,c]:=by
   match ls,hl with
   | [a,b,c],_=>exact⟨a,b,c,rfl⟩
  obtain⟨o,rfl⟩:=ME (k:= .i64) (Ee hd (i:=0) (u:=23) (by kernel_rfl) rfl) (by kernel_rfl);obtain⟨n,rfl⟩:=ME (k:= .i64) (Ee hd (i:=1) (u:=3) (by kernel_rfl) rfl) (by kernel_rfl);obtain⟨f,hf,ht⟩:=Option.map_eq_some_iff.1 (show xV 26 2=some 24 by kernel_rfl);obtain⟨ks,rfl⟩:=(ih 2 f c hf rfl).2 ht;exact⟨.mk o n ks,(DN o n ks).symm⟩
theorem data_T {x:List AV} (h:Am.Data Tryz.prog 26 x):∃t,x=Cm t:=(Vu h).1 rfl
theorem data_Ts {x:List AV} (h:Am.Data Tryz.prog 24 x):∃ts,x=[CM Cm 3 ts]:=(Vu h).2 rfl
theorem data_D {x:List AV} (h:Am.Data Tryz.prog 54 x):∃d,x=Y9 d:=by
 obtain⟨ls,rfl,hl,hd⟩:=data_st (fs:=fieldsOf 54) h (by kernel_rfl);have hl:ls.length=3:=hl.trans (by kernel_rfl)
 match ls,hl,hd with
 | [a,b,c],_,hd=>
  obtain⟨w,rfl⟩:=xU (Ee hd (i:=0) (u:=9) (by kernel_rfl) rfl) (by kernel_rfl);obtain⟨n,rfl⟩:=ME (k:= .i64) (Ee hd (i:=1) (u:=3) (by kernel_rfl) rfl) (by kernel_rfl);obtain⟨cs,rfl⟩:=O0 (enc:=XS) (Ee hd (i:=2) (u:=52) (by kernel_rfl) rfl) (e:=24) (k:=1) (by kernel_rfl) (by kernel_rfl) fun x h=>data_Ts h;exact⟨⟨w,n,cs⟩,U⟩
theorem data_Ds {x:List AV} (h:Am.Data Tryz.prog 22 x):∃ds,x=[We ds]:=O0 h (e:=54) (by kernel_rfl) (by kernel_rfl) fun _ h=>data_D h
theorem pM (h:Wq Tryz.prog 8 [] (.bool true)) (w:World) (ds:List DT) (s:X4) (t:KT) {x y z:Value} (hx:VR (Cx.memory w) (We ds) x) (hy:VR (Cx.memory w) (.str s) y) (hz:VR (Cx.memory w) (.agg (Cm t)) z):
 Calls Tryz.prog 3 #[x,y,z] w fun e w'=>e= .returned (.bool true)/\Go.RowKit.Below w.heap.size w w':=
 V5 Ax (allM h) (args:=[We ds,.str s,.agg (Cm t)]) (by rfl) (law_to ds s t) (fun _ _ h=>by cases h) (.cons hx (.cons hy (.cons hz .nil)))
end Go.Proofs.YtfhimfcbphepeaaGreatDoor.Ty
