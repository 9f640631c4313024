/- Code: a text is read as its code; printing, as the document has it; the law of prints. -/
import Derived.Test.YtpihdbhocgcbpaaGreatDoorCdC
import Derived.Test.YtpihdbhocgcbpaaGreatDoorCdD
import Derived.Test.YtpihdbhocgcbpaaGreatDoorCdB
import Derived.Lib.LaidTab
set_option linter.unusedSectionVars false
set_option linter.unusedVariables false
set_option linter.unusedSimpArgs false
open Go Am
namespace Go.Proofs.YtpihdbhocgcbpaaGreatDoor.Gl
def lB (m d:Nat):Prop:=1≤d∧m<10^d∧(d=1∨10^(d-1)≤m)
theorem lB.le {m d e:Nat} (h:lB m d) (h2:lB m e):e≤d:=by
 obtain⟨a,b,c⟩:=h;obtain⟨a',b',c'⟩:=h2;rcases Nat.lt_or_ge d e with h|h
 ·exfalso;rcases c' with c'|c'
  ·omega
  ·have:=Nat.pow_le_pow_right (n:=10) (by decide) (show d≤e-1 by omega);omega
 ·exact h
theorem lB.uniq {m d e:Nat} (h:lB m d) (h2:lB m e):d=e:=Nat.le_antisymm (h2.le h) (h.le h2)
theorem Tj {m:Nat} (h:m<100):∃d,lB m d∧d≤7∧Zq m=Zd m d:=by
 unfold Zq;split
 ·exact⟨1,⟨by decide,by omega,.inl U⟩,by decide,by
   show _=[UInt8.ofNat (48+m % 10)]
   rw[Nat.mod_eq_of_lt (by omega)]⟩
 ·exact⟨2,⟨by decide,by omega,.inr (by show 10^1≤m;omega)⟩,by decide,by
   show _=[UInt8.ofNat (48+m/10 % 10),UInt8.ofNat (48+m % 10)]
   rw[Nat.mod_eq_of_lt (show m/10<10 by omega)]⟩
theorem Jo {m:Nat} (h:m<10000000):∃d,lB m d∧d≤7∧Cp (m:Int)=Zd m d:=by
 unfold Cp;by_cases h1:m<100
 ·rw[if_pos (by omega)];exact Tj h1
 ·rw[if_neg (by omega),if_neg (by omega)];obtain⟨a,b,c,d⟩:=JR (m:=m) (by omega) h;exact⟨VQ m,⟨a,d,.inr c⟩,b,rfl⟩
theorem QQ {m:Nat} (h0:1≤m) (h:m<10000000):Cp (-(m:Int))=45::Cp (m:Int):=by
 obtain⟨d,h1,h2,h3⟩:=Jo h;obtain⟨a,b,c,e⟩:=JR (m:=m) h0 h;rw[h3,h1.uniq ⟨a,e,.inr c⟩];unfold Cp;rw[if_neg (by omega),if_pos (by omega),Int.natAbs_neg,Int.natAbs_natCast]
theorem QP {m:Nat} (h:m<10):Cp (m:Int)=[UInt8.ofNat (48+m)]:=by
 unfold Cp;rw[if_pos (by omega),Int.toNat_natCast];unfold Zq;rw[if_pos h]
theorem Uz {m:Nat} (h:m<10000000) (h2:10≤m):Cp (m:Int)=Cp ((m/10:Nat):Int)++Cp ((m % 10:Nat):Int):=by
 obtain⟨d,⟨a,b,c⟩,_,e⟩:=Jo h;obtain⟨d',h1',_,e'⟩:=Jo (m:=m/10) (by omega);obtain⟨k,rfl⟩:∃k,d=k+1:=⟨d-1,by omega⟩
 have hk:k≠0:=fun e=>by subst e;omega
 obtain⟨j,rfl⟩:∃j,k=j+1:=⟨k-1,by omega⟩
 have hD:lB (m/10) (j+1):=⟨by omega,by rw[Nat.pow_succ]at b;omega,.inr (by
  rcases c with c|c
  ·omega
  ·rw[Nat.add_sub_cancel,Nat.pow_succ]at c;rw[Nat.add_sub_cancel];omega)⟩
 rw[e,e',h1'.uniq hD,QP (by omega)];rfl
theorem Rg:∀(d m:Nat),1≤m→m<10^(d+1)→10^d≤m→¬(Zd m (d+1)).getD 0 0=48
 |0,m,h0,h1,_=>by
  show¬UInt8.ofNat (48+m % 10)=48;intro e;have:=congrArg UInt8.toNat e;rw[RB (by omega)]at this;have:48+m % 10=48:=this;omega
 |d+1,m,h0,h1,h2=>by
  have hp:1≤10^d:=Nat.pow_pos (by decide);have h3:10^d≤m/10:=by rw[Nat.pow_succ]at h2;omega
  have ih:=Rg d (m/10) (by omega) (by rw[Nat.pow_succ]at h1;omega) h3;rw[Zd,List.getD_eq_getElem?_getD,List.getElem?_append_left (by rw[Ky];omega),←List.getD_eq_getElem?_getD];exact ih
theorem yu {w:List UInt8} (h:∀b∈w,48≤b.toNat∧b.toNat≤57):Rd.W3 w=w:=by
 cases w with
 |nil=>rfl
 |cons b w=>
  show(if b=45 then w else b::w)=_;rw[if_neg fun e=>by have:=h b (Qh ..);rw[e]at this;exact absurd this.1 (by decide)]
theorem JW {m:Nat} (h:m<10000000):1≤(Cp (m:Int)).length∧(Cp (m:Int)).length≤7∧(1≤m→¬(Cp (m:Int)).getD 0 0=48)∧(∀b∈Cp (m:Int),48≤b.toNat∧b.toNat≤57)∧Rd.j4 (Cp (m:Int))=m:=by
 obtain⟨d,⟨a,b,c⟩,h7,e⟩:=Jo h;rw[e,Ky];obtain⟨k,rfl⟩:∃k,d=k+1:=⟨d-1,by omega⟩
 refine⟨a,h7,fun h1=>Rg k m h1 b ?_,Hd _ _,Rf _ _ b⟩;rcases c with c|c
 ·obtain rfl:k=0:=by omega
  exact h1
 ·exact c
theorem BY {n:Int} (h:Xw n):Rd.WU (Cp n)∧Rd.VQ (Cp n)=n:=by
 have dg:∀ {w:List UInt8},(∀b∈w,48≤b.toNat∧b.toNat≤57)→∀i,i<w.length→Rd.cX (w.getD i 0)=true:=fun {w} hw i hi=>by
  rw[List.getD_eq_getElem?_getD,Qi hi];have:=hw w[i] (Ql hi);unfold Rd.cX;show(decide (48≤((w[i]).toNat:Int))&&decide (((w[i]).toNat:Int)≤57))=true;rw[decide_eq_true (by omega),decide_eq_true (by omega)];rfl
 unfold Xw at h;rcases Int.lt_or_le n 0 with h0|h0
 ·obtain⟨m,rfl⟩:∃m:Nat,n= -(m:Int):=⟨n.natAbs,by omega⟩
  obtain⟨a,b,c,d,e⟩:=JW (m:=m) (by omega);rw[QQ (by omega) (by omega)];have ht:Rd.W3 (45::Cp (m:Int))=Cp (m:Int):=rfl;refine⟨?_,?_⟩
  ·unfold Rd.WU;rw[ht];exact⟨a,b,.inl (c (by omega)),dg d⟩
  ·unfold Rd.VQ;rw[ht,if_neg fun e=>by have:=congrArg List.length e;simp at this,e]
 ·obtain⟨m,rfl⟩:∃m:Nat,n=(m:Int):=⟨n.natAbs,by omega⟩
  obtain⟨a,b,c,d,e⟩:=JW (m:=m) (by omega);have ht:=yu d;refine⟨?_,?_⟩
  ·unfold Rd.WU;rw[ht];refine⟨a,b,?_,dg d⟩;cases m with
   |zero=>exact .inr rfl
   |succ m=>exact .inl (c (by omega))
  ·unfold Rd.VQ;rw[ht,if_pos rfl,e]
theorem M4 {c:UInt8}:∀ {a:List UInt8} (r:List UInt8),c∉a→Yd c (a++c::r)=some a.length
 | [],r,_=>by
  show(if c=c then some 0 else _)=_;rw[if_pos rfl];rfl
 |b::a,r,h=>by
  rw[Qk,not_or]at h;show(if b=c then some 0 else(Yd c (a++c::r)).map (· +1))=_;rw[if_neg (Ne.symm h.1),M4 r h.2];rfl
theorem MK {c:UInt8} (a r:List UInt8):(a++c::r).drop (a.length+1)=r:=by
 rw[show a++c::r=(a++[c])++r by simp,List.drop_left' (by simp)]
theorem Jl:∀ {l:List (List UInt8)} {a:List UInt8},(∀w∈a::l,32∉w)→Rd.dV 32 (OK [32] (a::l))=a::l
 | [],a,h=>by
  show Rd.dV 32 (a++[])=[a]
  rw[List.append_nil,Rd.GP (U8.2 (h a (Qh ..)))]
 |b::l,a,h=>by
  have e:OK [32] (a::b::l)=a++32::OK [32] (b::l):=by simp[OK]
  rw[e,Rd.HQ (M4 _ (h a (Qh ..))),List.take_left,MK,Jl fun w hw=>h w (Qg _ hw)]
theorem Rm {p:Zl} (h:altP p):Rd.l8 (Y8 p)∧Rd.dI (Y8 p)=p:=by
 have e:Y8 p=Cp p.1++58::Cp p.2:=by unfold Y8;simp
 have hi:Yd 58 (Y8 p)=some (Cp p.1).length:=by
  rw[e];exact M4 _ (Pw (by unfold ui;decide))
 have h1:(Y8 p).take (Cp p.1).length=Cp p.1:=by rw[e,List.take_left]
 have h2:(Y8 p).drop ((Cp p.1).length+1)=Cp p.2:=by rw[e,MK]
 refine⟨⟨_,hi,by rw[h1];exact(BY h.1).1,by rw[h2];exact(BY h.2).1⟩,?_⟩;unfold Rd.dI;rw[hi];show(Rd.VQ ((Y8 p).take _),Rd.VQ ((Y8 p).drop _))=p;rw[h1,h2,(BY h.1).2,(BY h.2).2]
theorem ND {l:List Int} (h:∀n∈l,Xw n):(∀w∈l.map Cp,Rd.WU w)∧(l.map Cp).map Rd.VQ=l:=by
 refine⟨fun w hw=>?_,?_⟩
 ·obtain⟨n,hn,rfl⟩:=List.mem_map.1 hw;exact(BY (h n hn)).1
 ·rw[List.map_map];exact(List.map_congr_left fun n hn=>(BY (h n hn)).2).trans (List.map_id _)
theorem TS {op:Int} (h:1≤op∧op≤6):Rd.bh (ke op)=some 2∧Rd.bQ (ke op)=op:=by
 have:op=1∨op=2∨op=3∨op=4∨op=5∨op=6:=by omega
 rcases this with rfl|rfl|rfl|rfl|rfl|rfl<;>exact⟨rfl,rfl⟩
theorem uG {x:VI} (h:l5 x):Rd.Zs (Rd.bQ (ke x.op)) (zn x) x []:=by
 rw[(TS h.op).2];have ho:=h.op;have h1:=h.a0;have h2:=h.alts0;have h3:=h.to0;have h4:=h.node0;have ha:=BY h.a;have ht:=BY h.term;have hn:=BY h.n;have my:=ND h.to;have har:=ND h.args;have jj:(∀w∈x.alts.map Y8,Rd.l8 w)∧(x.alts.map Y8).map Rd.dI=x.alts:=⟨fun w hw=>by
  obtain⟨p,hp,rfl⟩:=List.mem_map.1 hw;exact(Rm (h.alts p hp)).1,by
  rw[List.map_map];exact(List.map_congr_left fun p hp=>(Rm (h.alts p hp)).2).trans (List.map_id _)⟩
 clear h;obtain⟨o,a,al,to,te,n,ar⟩:=x;dsimp only at*;unfold Rd.Zs zn;by_cases e1:o=1
 ·subst e1;rw[if_pos rfl,if_pos rfl];obtain⟨rfl,rfl,rfl⟩:=h4 (by decide);obtain rfl:=h3 (by decide);exact⟨_,⟨_,rfl,ha.1,jj.1,by rw[ha.2,jj.2]⟩,rfl⟩
 rw[if_neg e1,if_neg e1];by_cases e2:o=2
 ·subst e2;rw[if_pos rfl,if_pos rfl];obtain⟨rfl,rfl,rfl⟩:=h4 (by decide);obtain rfl:=h2 (by decide);obtain rfl:=h1 (by decide) (by decide);exact⟨my.1,by rw[my.2],rfl⟩
 rw[if_neg e2,if_neg e2];obtain rfl:=h3 e2;obtain rfl:=h2 e1;by_cases e5:o=5
 ·subst e5;rw[if_pos rfl,if_pos rfl];obtain rfl:=h1 (by decide) (by decide);exact⟨_,_,_,rfl,ht.1,hn.1,har.1,by rw[ht.2,hn.2,har.2],rfl⟩
 rw[if_neg e5,if_neg e5];obtain⟨rfl,rfl,rfl⟩:=h4 e5;by_cases e6:o=6
 ·subst e6;rw[if_pos rfl,if_pos rfl];exact⟨_,rfl,ha.1,by rw[ha.2]⟩
 rw[if_neg e6,if_neg e6];obtain rfl:=h1 e1 e6;exact⟨rfl,rfl⟩
theorem Rn {l0 l:Int} {c c2:Cm} {t:List UInt8} (hl:l0≤l) (h:Rd.XR l c t c2):Rd.XR l0 c t c2:=by
 cases h with
 |nil=>exact .nil
 |cons hi hL h=>
  obtain⟨w,ws,e1,e2,e3,e4⟩:=hL;exact .cons hi ⟨w,ws,e1,e2,by omega,e4⟩ h
theorem MT {last Z1:Int} {c c1 c2:Cm} {l:List (List UInt8)} {r:List UInt8} (hw:∀w∈l,YV w) (h:Rd.dW last c (OK [32] l) c1 Z1) (h2:Rd.XR Z1 c1 r c2):Rd.XR last c (OK [32] l++[10]++r) c2:=by
 have h10:(10:UInt8)∉OK [32] l:=fun hb=>by
  rcases uj hb with h|⟨w,gN,h⟩
  ·exact absurd h (by decide)
  ·exact(hw w gN).2 h
 rw[show OK [32] l++[10]++r=OK [32] l++10::r by simp];refine .cons (c1:=c1) (Z1:=Z1) (M4 r h10) ?_ ?_
 ·rw[List.take_left];exact h
 ·rw[MK];exact h2
theorem I1 (l:List (List UInt8)) (L:List (List (List UInt8))) (r:List UInt8):CU (l::L)++r=OK [32] l++[10]++(CU L++r):=by
 unfold CU;rw[List.flatMap_cons,List.append_assoc]
theorem Vv:∀ {l:List VI} {last:Int} {c c2:Cm} {r:List UInt8},last≤2→(∀x∈l,l5 x)→Rd.XR 2 {c with ins:=c.ins++l} r c2→Rd.XR last c (CU (l.map af)++r) c2
 | [],last,c,c2,r,hl,_,h=>by
  rw[List.append_nil]at h;exact Rn hl h
 |x::l,last,c,c2,r,hl,hx,h=>by
  have hP:=hx x (Qh ..);have hw:=(U1 x).2;rw[List.map_cons,I1];refine MT hw ⟨ke x.op,zn x,Jl fun w h=>(hw w h).1,(TS hP.op).1,hl,.inr (.inr ⟨rfl,x,uG hP,rfl⟩)⟩ (Vv (Int.le_refl _) (fun y hy=>hx y (Qg _ hy)) ?_);show Rd.XR 2 {c with ins:=c.ins++[x]++l} r c2;rw[List.append_assoc];exact h
theorem uH:YV [102,117,110]:=⟨by decide,by decide⟩
theorem uI:YV [99,111,110]:=⟨by decide,by decide⟩
theorem Ro:∀ {l:List CD} {s:List Int} {last:Int} {c c2:Cm} {r:List UInt8},last≤1→s.length=l.length→(∀p∈l,(YV p.1∧Xw p.2)∧Rd.Yu p.1)→(∀n∈s,Xw n)→Rd.XR 1 {c with Co:=c.Co++l,Cj:=c.Cj++s} r c2→Rd.XR last c (CU (List.zipWith jb l s)++r) c2
 | [],[],last,c,c2,r,hl,_,_,_,h=>by
  rw[List.append_nil,List.append_nil]at h;exact Rn hl h
 |p::l,n::s,last,c,c2,r,hl,hs,hp,hn,h=>by
  have h1:=hp p (Qh ..);have h2:=hn n (Qh ..);have hw:∀w∈jb p n,YV w:=fun w hw=>by
   unfold jb at hw;simp only[Qk,List.not_mem_nil,or_false]at hw;rcases hw with rfl|rfl|rfl|rfl
   ·exact uH
   ·exact h1.1.1
   ·exact D6 _
   ·exact D6 _
  rw[List.zipWith_cons_cons,I1];refine MT hw ⟨_,_,Jl fun w h=>(hw w h).1,rfl,hl,.inr (.inl ⟨rfl,p.1,Cp p.2,Cp n,rfl,h1.2,(BY h1.1.2).1,(BY h2).1,rfl⟩)⟩ (Ro (Int.le_refl _) (Nat.succ.inj hs) (fun y hy=>hp y (Qg _ hy)) (fun y hy=>hn y (Qg _ hy)) ?_);rw[(BY h1.1.2).2,(BY h2).2];show Rd.XR 1 {c with Co:=c.Co++[p]++l,Cj:=c.Cj++[n]++s} r c2;rw[List.append_assoc,List.append_assoc];exact h
 | [],_::_,_,_,_,_,_,hs,_,_,_=>by cases hs
 |_::_,[],_,_,_,_,_,hs,_,_,_=>by cases hs
theorem Rp:∀ {l:List CD} {c c2:Cm} {r:List UInt8},(∀p∈l,(YV p.1∧Xw p.2)∧Rd.Yu p.1)→Rd.XR 0 {c with cons:=c.cons++l} r c2→Rd.XR 0 c (CU (l.map ja)++r) c2
 | [],c,c2,r,_,h=>by
  rw[List.append_nil]at h;exact h
 |p::l,c,c2,r,hp,h=>by
  have h1:=hp p (Qh ..);have hw:∀w∈ja p,YV w:=fun w hw=>by
   unfold ja at hw;simp only[Qk,List.not_mem_nil,or_false]at hw;rcases hw with rfl|rfl|rfl
   ·exact uI
   ·exact h1.1.1
   ·exact D6 _
  rw[List.map_cons,I1];refine MT hw ⟨_,_,Jl fun w h=>(hw w h).1,rfl,Int.le_refl _,.inl ⟨rfl,p.1,Cp p.2,rfl,h1.2,(BY h1.1.2).1,rfl⟩⟩ (Rp (fun y hy=>hp y (Qg _ hy)) ?_);rw[(BY h1.1.2).2];show Rd.XR 0 {c with cons:=c.cons++[p]++l} r c2;rw[List.append_assoc];exact h
theorem name_P {w:List UInt8} (h:YU w=true):Rd.Yu w:=by
 unfold YU at h;rw[Qf]at h;have h1:=SW (dT h.1);have h2:=Ig h.2;refine⟨fun e=>by subst e;exact absurd h2.1 (by decide),fun i hi=>?_⟩;rw[List.getD_eq_getElem?_getD,Qi hi];exact h1 _ (Ql hi)
theorem Pn:∀ {l:List CD} {bs cs:List (List UInt8)},VO bs l=some cs→∀p∈l,Rd.Yu p.1
 | [],_,_,_,_,hp=>by cases hp
 |q::l,bs,cs,h,p,hp=>by
  unfold VO at h;split at h
  ·next ho=>
   rcases Qk.1 hp with rfl|hp
   ·unfold j1 at ho;rw[Qf,Qf]at ho;exact name_P ho.2.1
   ·exact Pn h p hp
  ·cases h
theorem LY {c:Cm} (h:CV c=true):Rd.XR 0 ⟨[],[],[],[]⟩ (XD c) c:=by
 have hP:=MO h;have hN:(∀p∈c.cons,Rd.Yu p.1)∧∀p∈c.Co,Rd.Yu p.1:=by
  unfold CV Zz Zc at h;rw[Qf,Qf (a:=(List.range _).all _),Qf,Qf]at h;obtain⟨⟨⟨_,hn⟩,_⟩,_⟩:=h;cases h1:VO [] c.cons with
  |none=>rw[h1]at hn;cases hn
  |some l=>
   rw[h1]at hn;dsimp only at hn;cases h2:VO l c.Co with
   |none=>rw[h2]at hn;cases hn
   |some l'=>exact⟨Pn h1,Pn h2⟩
 unfold XD lz;rw[DP,DP];refine Rp (fun p hp=>⟨hP.cons p hp,hN.1 p hp⟩) (Ro (by decide) hP.len (fun p hp=>⟨hP.Co p hp,hN.2 p hp⟩) hP.Cj ?_);have:=Vv (l:=c.ins) (last:=1) (c:=⟨[]++c.cons,[]++c.Co,[],[]++c.Cj⟩) (r:=[]) (c2:=c) (by decide) hP.ins (by
  show Rd.XR 2 ⟨[]++c.cons,[]++c.Co,[]++c.ins,[]++c.Cj⟩ [] c;simp only[List.nil_append];exact .nil)
 rw[List.append_nil]at this;exact this
theorem uJ (c:Cm) (hf:Fits c) (hc:CV c=false):Cb (EK qc) 19 [.agg (CG c)] S0 (.tuple [.str [],.int .i64 2]):=by
 refine Aq (fn:=Tryz.f19) U U (by kernel_rfl) U U U U ?_;focus
  refine Es<|Lo (A4 1 U U U U) U ?_;iterate 2 refine qa U ?_
  refine Ld<|Aa<|Es<|Lo (AA U Em D5 U U (Qc U)) U ?_;refine Lo (Ad U U (by kernel_rfl) U (Cb.Cs (Jc (by omega)))) U ?_;refine Lq (o2 RA U U) rfl<|Ld ?_;refine Ec U (fun g1=>?_) (fun g1=>?_);have h1:=nT g1;refine Es ?_;iterate 2 refine qa U ?_
  refine Ld ?_;refine Ab ⟨.inl U,rfl,rfl,rfl,_,_,_,(An U (An U U)),rfl,rfl,?_⟩;rotate_left;have h1:=nF g1;refine Ac<|Es<|Lo (Bc 2 U oK U) rfl<|Ld<|Aa<|Es<|Lq (of BI U) rfl<|Lq (of BA U) rfl<|Lo (l1 Bn Bk U) rfl<|Lq (ol D3 U) rfl<|qm rfl<|Ld<|Ch.block ?_;rotate_left
 ·rfl
 ·rw[hc]at h1;exact absurd h1 (by decide)
noncomputable def KP1:=Wa qc 19 (fun p:Z7=>[.agg (CG p.1)]) (fun p=>if CV p.1 then .tuple [.str (XD p.1),.int .i64 0]else .tuple [.str [],.int .i64 2])
theorem LF {c:Cm} (h:Fits c):KP1 19 [.agg (CG c)]=some (if CV c then .tuple [.str (XD c),.int .i64 0]else .tuple [.str [],.int .i64 2]):=
 A3 (f:=19) (enc:=fun p:Z7=>[.agg (CG p.1)]) (res:=fun p=>if CV p.1 then .tuple [.str (XD p.1),.int .i64 0]else .tuple [.str [],.int .i64 2]) (by
  rintro⟨a,_⟩ ⟨b,_⟩ h;obtain rfl:=Hb (List.cons.inj h).1;rfl) ⟨c,h⟩
theorem GQ:∀(n m:Nat),m≤n→m<10000000→Cb (EK KP1) 94 [.int .i64 (m:Nat)] (WZ 0 0 [] []) (.str (Cp (m:Nat)))
 |n,m,hn,hm=>by
  refine Aq (fn:=Tryz.f94) U U (by kernel_rfl) U U U U ?_;by_cases h9:m≤9
  ·focus
    refine Es<|qa rfl<|Ld<|Aa<|Es<|qm rfl<|Lq (o2 Ck U U) rfl<|Ld<|Af U rfl<|Ac<|Aa<|Es<|qm rfl<|Lq (o2 Ck U U) rfl<|Ld ?_;refine Ec U (fun g1=>?_) (fun g1=>?_);have h1:=dT g1;exact absurd h1 (by omega);have h1:=dF g1;refine Ac<|Es<|qm U ?_;refine Lq (Ap (a:=48) U Ck U U (by omega)) U ?_;refine Lq (DZ U Ck dU U (by omega)) rfl<|Lo (Fk 1 U DO B3 z_5 U U U U) rfl<|Lo (BP U DO Wl OM U U) rfl<|qa rfl<|Ld ?_;refine Ab (Er U ?_);rotate_left
   show AV.str [UInt8.ofNat (48+m)]=_;rw[QP (by omega)]
  ·cases n with
   |zero=>omega
   |succ n=>
    have nV:=GQ n (m/10) (by omega) (by omega);have yv:=GQ n (m % 10) (by omega) (by omega);have l1:=(JW (m:=m/10) (by omega)).2.1;have l2:=(JW (m:=m % 10) (by omega)).2.1;focus
     refine Es<|qa rfl<|Ld<|Aa<|Es<|qm rfl<|Lq (o2 Ck U U) rfl<|Ld<|Af U rfl<|Ac<|Aa<|Es<|qm rfl<|Lq (o2 Ck U U) rfl<|Ld ?_;refine Ec U (fun g1=>?_) (fun g1=>?_);have h1:=dT g1;refine Es<|qm rfl<|Lq (Rv (b:=10) U Ck U U (by omega)) U ?_;refine Lo (Ad U U (by kernel_rfl) U (nV)) rfl<|qm rfl<|Lq (Wj.remN (b:=10) U Ck U U (by omega)) rfl<|Lo (Ad U U (by kernel_rfl) U (yv)) U ?_;refine Lq (AH U Wl U U (by omega)) U ?_;refine qa rfl<|Ld ?_;refine Ab (Er U ?_);rotate_left;have h1:=dF g1;exact absurd h1 (by omega)
    show AV.str (Cp ((m/10:Nat):Int)++Cp ((m % 10:Nat):Int))=_;rw[Uz hm (by omega)]
theorem JQ (n:Int) (hn:Xw n):Cb (EK KP1) 94 [.int .i64 n] S0 (.str (Cp n)):=by
 unfold Xw at hn;by_cases h0:0≤n
 ·obtain⟨m,rfl⟩:∃m:Nat,n=(m:Int):=⟨n.natAbs,by omega⟩
  exact GQ m m (Qj _) (by omega)
 ·refine Aq (fn:=Tryz.f94) U U (by kernel_rfl) U U U U ?_;obtain⟨m,hm⟩:∃m:Nat,-n=(m:Int):=⟨n.natAbs,by omega⟩
  have nV:Cb (EK KP1) 94 [.int .i64 (-n)] (WZ 0 0 [] []) (.str (Cp (m:Nat))):=by
   rw[hm];exact GQ m m (Qj _) (by omega)
  have l1:=(JW (m:=m) (by omega)).2.1;have l2:([45]:List UInt8).length=1:=rfl;focus
   refine Es<|qa rfl<|Ld<|Aa<|Es<|qm rfl<|Lq (o2 Ck U U) rfl<|Ld ?_;refine Ec U (fun g1=>?_) (fun g1=>?_);have h1:=dT g1;refine Es<|qm U ?_;refine Lq (V7 U U (by omega)) U ?_;refine Lo (Ad U U (by kernel_rfl) U (nV)) U ?_;refine Lq (AH U Wl U U (by first|assumption|omega|(simp only[LL];omega))) U ?_;refine qa rfl<|Ld ?_;refine Ab (Er U ?_);rotate_left;have h1:=dF g1;exact absurd h1 (by omega)
  show AV.str (45::Cp (m:Int))=_;rw[show n= -(m:Int) by omega,QQ (by omega) (by omega)]
abbrev NumI:= {n:Int//Xw n}
noncomputable def KP2:=Wa KP1 94 (fun n:NumI=>[.int .i64 n.1]) (fun n=> .str (Cp n.1))
theorem Fu {n:Int} (h:Xw n):KP2 94 [.int .i64 n]=some (.str (Cp n)):=
 A3 (f:=94) (enc:=fun n:NumI=>[.int .i64 n.1]) (res:=fun n=> .str (Cp n.1)) (by rintro⟨a,_⟩ ⟨b,_⟩ h;cases h;rfl) ⟨n,h⟩
def Zn (l:List Int):List UInt8:=l.flatMap fun n=>32::Cp n
theorem Uh {l:List Int} {i:Nat} (h:i<l.length):Zn (l.take (i+1))=Zn (l.take i)++32::Cp l[i]:=by
 unfold Zn;rw[List.take_succ_eq_append_getElem h,List.flatMap_append];simp
theorem RS (l:List Int) (hl:l.length≤4000) (hp:∀n∈l,Xw n):Cb (EK KP2) 130 [Cq CY 1 l] S0 (.str (Zn l)):=by
 refine Aq (fn:=Tryz.f130) U U (by kernel_rfl) U U U rfl<|Es<|qa rfl<|Ld<|Es<|qa rfl<|Ld<|Aa<|Es<|qa rfl<|Ld<|Ch.block ?_;refine Aw (fun i:Nat=>([(4,.int .i64 (i:Nat)),(3,.str (Zn (l.take i))),(0,Cq CY 1 l)],WZ 0 0 [] [])) (fun i=>l.length-i) (fun i=>i≤l.length∧(Zn (l.take i)).length≤9*i) 0 ⟨Qo _,Qj _⟩ U (Ao (by repeat' constructor)) ?_;rintro i ⟨hi,hs⟩;dsimp only at hi hs⊢;by_cases h:i<l.length
 ·have hid:=A7 Bi h;have hn:=hp _ (Ql h);have aB:=B6 hn;have Fu:=Fu hn;focus
   refine Aa<|Es ?_;iterate 2 refine qm U ?_
   refine Lq (ol Ea U) rfl<|Lq (o2 Ck U U) rfl<|Ld ?_;refine Ec U (fun g1=>?_) (fun g1=>?_);have h1:=dT g1;refine Ac<|Aa<|Ch.block<|Ai<|qm U ?_;refine Lq (AH U Wl U U (by first|assumption|omega|(simp only[LL];omega))) U ?_;iterate 2 refine qm U ?_
   refine Lq (Ae U Ea Bb U U ‹_›) rfl<|Lq (Av U U Bv Bb) U ?_;refine Lo (Ad U U (by kernel_rfl) U (Cb.Cs (Fu))) U ?_;refine Lq (AH U Wl U U (by first|assumption|omega|(simp only[LL];omega))) U ?_;refine qa rfl<|Ld<|Ai<|qm U ?_;refine Lq (Ap (b:=1) U Ck U U (by omega)) U ?_;refine qa rfl<|Ld ?_;rotate_left;have h1:=dF g1;exact absurd h1 (by omega)
  have e:=Uh h;refine⟨i+1,⟨h,by rw[e,Qm,List.length_cons];omega⟩,by show l.length-(i+1)<l.length-i;omega,rfl,rfl,Ao ⟨rfl,?_,rfl,trivial⟩⟩;show some (AV.str (Zn (l.take i)++[32]++Cp l[i]))=some (.str (Zn (l.take (i+1))));rw[e,List.append_assoc];rfl
 ·obtain rfl:i=l.length:=by omega
  rw[List.take_length]at*;focus
   refine Aa<|Es ?_;iterate 2 refine qm U ?_
   refine Lq (ol Ea U) rfl<|Lq (o2 Ck U U) rfl<|Ld ?_;refine Ec U (fun g1=>?_) (fun g1=>?_);have h1:=dT g1;exact absurd h1 (by omega);have h1:=dF g1;refine A1<|AS rfl<|Es<|qm rfl<|qa rfl<|Ld ?_;refine Ab (Er U ?_);rotate_left
  rfl
abbrev uK:= {l:List Int//l.length≤4000∧∀n∈l,Xw n}
noncomputable def KP3:=Wa KP2 130 (fun l:uK=>[Cq CY 1 l.1]) (fun l=> .str (Zn l.1))
theorem IA {l:List Int} (hl:l.length≤4000) (hp:∀n∈l,Xw n):KP3 130 [Cq CY 1 l]=some (.str (Zn l)):=
 A3 (f:=130) (enc:=fun l:uK=>[Cq CY 1 l.1]) (res:=fun l=> .str (Zn l.1)) (by rintro⟨a,_⟩ ⟨b,_⟩ h;obtain rfl:=By Dx Bi (List.cons.inj h).1;rfl) ⟨l,hl,hp⟩
def fI:AV:= .Cd [.str [99,97,115,101],.str [111,114],.str [102,97,105,108],.str [102,114,101,101],.str [110,111,100,101],.str [101,110,116,101,114]] 6 1 true
theorem uL:X1 (Y3 Tryz.prog 1200 1200 0 []) 100 ⟨129,[],fI⟩=true:=by kernel_rfl
theorem mS:VG Tryz.prog 129 [] fI:=by
 have h2:=Dl AC (m:=[]) (fun e he=>by cases he) uL;exact fun C S w xs c cs hv hS=>h2 [] C S w xs c cs (fun g cs hg=>by cases hg) hv hS
noncomputable def KP4:=Wa KP3 129 (fun _:Unit=>[]) (fun _=>fI)
theorem IB:KP4 129 []=some fI:=
 A3 (f:=129) (enc:=fun _:Unit=>[]) (res:=fun _=>fI) (fun _ _ _=>rfl) ()
def bR (l:List Zl):List UInt8:=l.flatMap fun p=>32::Y8 p
theorem Vu {l:List Zl} {i:Nat} (h:i<l.length):bR (l.take (i+1))=bR (l.take i)++32::Y8 l[i]:=by
 unfold bR;rw[List.take_succ_eq_append_getElem h,List.flatMap_append];simp
theorem Ms:∀ {l:List Int},(∀n∈l,Xw n)→(Zn l).length≤9*l.length
 | [],_=>Qj _
 |n::l,h=>by
  have h1:=B6 (h n (Qh ..));have h2:=Ms (l:=l) fun m hm=>h m (Qg _ hm);have e:Zn (n::l)=(32::Cp n)++Zn l:=rfl;rw[e,Qm,List.length_cons,List.length_cons];omega
theorem LA (a:List UInt8) (l:List Int):OK [32] (a::l.map Cp)=a++Zn l:=by
 show a++(l.map Cp).flatMap ([32]++·)=_;rw[List.flatMap_map];rfl
theorem Sr (a:List UInt8) (l:List Zl):OK [32] (a::l.map Y8)=a++bR l:=by
 show a++(l.map Y8).flatMap ([32]++·)=_;rw[List.flatMap_map];rfl
theorem DU (a b:List UInt8) (l:List (List UInt8)):OK [32] (a::b::l)=a++[32]++OK [32] (b::l):=by simp[OK]
theorem yw (x:VI) (hP:l5 x) (h1:x.alts.length≤4000) (h2:x.to.length≤4000) (h3:x.args.length≤4000):Cb (EK KP4) 95 [.agg (WN x)] S0 (.str (OK [32] (af x))):=by
 have hA:=hP.a;have hT:=hP.term;have hN:=hP.n;have lA:=B6 hA;have lT:=B6 hT;have lN:=B6 hN;have jj:=hP.alts;have my:=IA h2 hP.to;have har:=IA h3 hP.args;have ho:=hP.op;have lto:=Ms hP.to;have lar:=Ms hP.args;obtain⟨o,a,al,to,te,n,ar⟩:=x;dsimp only at*;have:o=1∨o=2∨o=3∨o=4∨o=5∨o=6:=by omega
 rcases this with rfl|rfl|rfl|rfl|rfl|rfl
 ·refine Aq (fn:=Tryz.f95) U U (by kernel_rfl) U U U U ?_;refine Es<|Lo (A4 1 U U U U) rfl<|qa rfl<|Ld<|As (by kernel_rfl) ?_;refine Bp (AI U U (by kernel_rfl) U (IB)) (.inl U) U rfl<|Nq (of Df U) rfl<|A6 U E8 E6 U U U (by kernel_rfl) (.inl U) U rfl<|Nq (A8 (a:=1) (b:=1) U Ck U U (by omega)) U ?_;refine Nq (Di (k:=0) U B2 D0 U U (by omega) U) U ?_;refine Nq (Av U U Gs D0) rfl<|Nq (oa U) rfl<|Au<|Aa<|Es<|Lq (of Df U) rfl<|Lo (l1 E8 E6 U) rfl<|Ld<|Ch.block<|Es<|Lq (o2 Gp U U) rfl<|qa rfl<|Ld<|Ah U rfl<|Es<|qm U ?_;refine Lq (AH U Wl U U (by first|assumption|omega|(simp only[LL];omega))) U ?_;refine Lq (of E1 U) rfl<|Lo (l1 Bv Bb U) U ?_;refine Lo (Ad U U (by kernel_rfl) U (Cb.Cs (Fu (by omega)))) U ?_;refine Lq (AH U Wl U U (by first|assumption|omega|(simp only[LL];omega))) U ?_;refine qa rfl<|Ld<|Es<|qa rfl<|Ld<|Ch.block ?_
  refine Aw (fun i:Nat=>([(4,.int .i64 (i:Nat)),(3,.str ([99,97,115,101]++[32]++Cp a++bR (al.take i))),(1,.ptr 0 0)],WZ 1 0 [] [(0,some (.cells (WN {op:=1,a:=a,alts:=al,to:=to,term:=te,n:=n,args:=ar}) 58 false))])) (fun i=>al.length-i) (fun i=>i≤al.length∧(bR (al.take i)).length≤18*i) 0 ⟨Qo _,Qj _⟩ U (Ao ⟨rfl,?_,rfl,trivial⟩) ?_
  ·show some (AV.str ([99,97,115,101]++[32]++Cp a))=some (.str ([99,97,115,101]++[32]++Cp a++bR (al.take 0)));rw[show bR (al.take 0)=[]from rfl,List.append_nil]
  rintro i ⟨hi,hs⟩;dsimp only at hi hs⊢;have X9:([99,97,115,101]++[32]++Cp a++bR (al.take i)).length≤100000:=by
   rw[Qm,Qm];have:([99,97,115,101]++[32]:List UInt8).length=5:=rfl;omega
  by_cases h:i<al.length
  ·have hid:=A7 Eo h;obtain⟨fB,mv⟩:=jj _ (Ql h);have ln1:=B6 fB;have ln2:=B6 mv;generalize hW: [99,97,115,101]++[32]++Cp a++bR (al.take i)=W at*;focus
    refine Aa<|Es<|qm rfl<|Lq (of Dm U) rfl<|Lo (l1 E7 Ee U) rfl<|Lq (ol Hm U) rfl<|Lq (o2 Ck U U) rfl<|Ld ?_;refine Ec U (fun g1=>?_) (fun g1=>?_);have h1:=dT g1;refine Ac<|Aa<|Ch.block<|Bt (by kernel_rfl)<|Nq (om U) U ?_;refine Nq (AH U Wl U U (by first|assumption|omega|(simp only[LL];omega))) U ?_;refine Nq (of Dm U) rfl<|A6 U E7 Ee U U U (by kernel_rfl) (.inl U) U rfl<|Nq (om U) rfl<|Nq (Ae U Hm Fo U U ‹_›) rfl<|Nq (Az U Hr U (Qc U)) rfl<|Nq (Av U U Bv Bb) U ?_;refine Bp (AI U U (by kernel_rfl) U (Fu (by omega))) (.inl U) U U ?_;iterate 2 refine Nq (AH U Wl U U (by first|assumption|omega|(simp only[LL];omega))) U ?_
    refine Nq (of Dm U) rfl<|A6 U E7 Ee U U U (by kernel_rfl) (.inl U) U rfl<|Nq (om U) rfl<|Nq (Ae U Hm Fo U U ‹_›) rfl<|Nq (Az U Je U (Qc U)) rfl<|Nq (Av U U Bv Bb) U ?_;refine Bp (AI U U (by kernel_rfl) U (Fu (by omega))) (.inl U) U U ?_;refine Nq (AH U Wl U U (by first|assumption|omega|(simp only[LL];omega))) U ?_;refine Nq (oa U) rfl<|Au<|Ai<|qm U ?_;refine Lq (Ap (b:=1) U Ck U U (by omega)) U ?_;refine qa rfl<|Ld ?_;rotate_left;have h1:=dF g1;refine A1<|AS rfl<|Es<|qm rfl<|qa rfl<|Ld ?_;refine Ab (Er U ?_);rotate_left
   rotate_left
   ·exact absurd (Int.ofNat_lt.2 h) h1
   have e:=Vu h;have ew:Y8 al[i]=Cp al[i].1++[58]++Cp al[i].2:=rfl;refine⟨i+1,⟨h,by rw[e,ew,Qm,List.length_cons,Qm,Qm,List.length_singleton];omega⟩,by show al.length-(i+1)<al.length-i;omega,rfl,rfl,Ao ⟨rfl,?_,rfl,trivial⟩⟩;show some (AV.str (W++[32]++Cp al[i].1++[58]++Cp al[i].2))=some (.str ([99,97,115,101]++[32]++Cp a++bR (al.take (i+1))));rw[e,ew,←List.append_assoc,hW];simp only[List.append_assoc,List.cons_append,List.nil_append]
  ·obtain rfl:i=al.length:=by omega
   rw[List.take_length]at*;focus
    refine Aa<|Es<|qm rfl<|Lq (of Dm U) rfl<|Lo (l1 E7 Ee U) rfl<|Lq (ol Hm U) rfl<|Lq (o2 Ck U U) rfl<|Ld ?_;refine Ec U (fun g1=>?_) (fun g1=>?_);have h1:=dT g1;refine Ac<|Aa<|Ch.block<|Bt (by kernel_rfl)<|Nq (om U) U ?_;refine Nq (AH U Wl U U (by first|assumption|omega|(simp only[LL];omega))) U ?_;refine Nq (of Dm U) rfl<|A6 U E7 Ee U U U (by kernel_rfl) (.inl U) U rfl<|Nq (om U) U ?_;rotate_left;have h1:=dF g1;refine A1<|AS rfl<|Es<|qm rfl<|qa rfl<|Ld ?_;refine Ab (Er U ?_);rotate_left
   ·exact absurd (Int.ofNat_lt.1 h1) h
   show AV.str ([99,97,115,101]++[32]++Cp a++bR al)=AV.str (OK [32] ([99,97,115,101]::Cp a::al.map Y8));rw[DU,Sr,←List.append_assoc]
 ·have IA:=my;refine Aq (fn:=Tryz.f95) U U (by kernel_rfl) U U U rfl<|Es<|Lo (A4 1 U U U U) rfl<|qa rfl<|Ld<|As (by kernel_rfl) ?_;refine Bp (AI U U (by kernel_rfl) U (IB)) (.inl U) U rfl<|Nq (of Df U) rfl<|A6 U E8 E6 U U U (by kernel_rfl) (.inl U) U rfl<|Nq (A8 (a:=2) (b:=1) U Ck U U (by omega)) U ?_;refine Nq (Di (k:=1) U B2 D0 U U (by omega) U) U ?_;refine Nq (Av U U Gs D0) rfl<|Nq (oa U) rfl<|Au<|Aa<|Es<|Lq (of Df U) rfl<|Lo (l1 E8 E6 U) rfl<|Ld<|Ch.block<|Es<|Lq (o2 Gp U U) rfl<|qa rfl<|Ld<|Af U rfl<|Es<|Lq (o2 Gp U U) U ?_;refine qa rfl<|Ld<|Ah U rfl<|Ai<|qm rfl<|Lq (of E9 U) rfl<|Lo (l1 BJ B9 U) U ?_;refine Lo (Ad U U (by kernel_rfl) U (Cb.Cs (IA))) U ?_;refine Lq (AH U Wl U U (by first|assumption|omega|(simp only[LL];omega))) U ?_;refine qa rfl<|Ld<|Es<|qm rfl<|qa rfl<|Ld ?_;refine Ab (Er U ?_)
  show AV.str ([111,114]++Zn to)=AV.str (OK [32] ([111,114]::to.map Cp));rw[LA]
 ·refine Aq (fn:=Tryz.f95) U U (by kernel_rfl) U U U U ?_;refine Es<|Lo (A4 1 U U U U) rfl<|qa rfl<|Ld<|As (by kernel_rfl) ?_;refine Bp (AI U U (by kernel_rfl) U (IB)) (.inl U) U rfl<|Nq (of Df U) rfl<|A6 U E8 E6 U U U (by kernel_rfl) (.inl U) U rfl<|Nq (A8 (a:=3) (b:=1) U Ck U U (by omega)) U ?_;refine Nq (Di (k:=2) U B2 D0 U U (by omega) U) U ?_;refine Nq (Av U U Gs D0) rfl<|Nq (oa U) rfl<|Au<|Aa<|Es<|Lq (of Df U) rfl<|Lo (l1 E8 E6 U) rfl<|Ld<|Ch.block<|Es<|Lq (o2 Gp U U) rfl<|qa rfl<|Ld<|Af U rfl<|Es<|Lq (o2 Gp U U) U ?_;refine qa rfl<|Ld<|Af U rfl<|Es<|Lq (o2 Gp U U) rfl<|qa rfl<|Ld<|Af U rfl<|Es<|Lq (o2 Gp U U) rfl<|qa rfl<|Ld<|Af U rfl<|Ac<|Es<|qm U ?_;refine qa rfl<|Ld ?_;refine Ab (Er U ?_);rfl
 ·refine Aq (fn:=Tryz.f95) U U (by kernel_rfl) U U U U ?_;refine Es<|Lo (A4 1 U U U U) rfl<|qa rfl<|Ld<|As (by kernel_rfl) ?_;refine Bp (AI U U (by kernel_rfl) U (IB)) (.inl U) U rfl<|Nq (of Df U) rfl<|A6 U E8 E6 U U U (by kernel_rfl) (.inl U) U rfl<|Nq (A8 (a:=4) (b:=1) U Ck U U (by omega)) U ?_;refine Nq (Di (k:=3) U B2 D0 U U (by omega) U) U ?_;refine Nq (Av U U Gs D0) rfl<|Nq (oa U) rfl<|Au<|Aa<|Es<|Lq (of Df U) rfl<|Lo (l1 E8 E6 U) rfl<|Ld<|Ch.block<|Es<|Lq (o2 Gp U U) rfl<|qa rfl<|Ld<|Af U rfl<|Es<|Lq (o2 Gp U U) U ?_;refine qa rfl<|Ld<|Af U rfl<|Es<|Lq (o2 Gp U U) rfl<|qa rfl<|Ld<|Af U rfl<|Es<|Lq (o2 Gp U U) rfl<|qa rfl<|Ld<|Af U rfl<|Ac<|Es<|qm U ?_;refine qa rfl<|Ld ?_;refine Ab (Er U ?_);rfl
 ·have IA:=har;refine Aq (fn:=Tryz.f95) U U (by kernel_rfl) U U U rfl<|Es<|Lo (A4 1 U U U U) rfl<|qa rfl<|Ld<|As (by kernel_rfl) ?_;refine Bp (AI U U (by kernel_rfl) U (IB)) (.inl U) U rfl<|Nq (of Df U) rfl<|A6 U E8 E6 U U U (by kernel_rfl) (.inl U) U rfl<|Nq (A8 (a:=5) (b:=1) U Ck U U (by omega)) U ?_;refine Nq (Di (k:=4) U B2 D0 U U (by omega) U) U ?_;refine Nq (Av U U Gs D0) rfl<|Nq (oa U) rfl<|Au<|Aa<|Es<|Lq (of Df U) rfl<|Lo (l1 E8 E6 U) rfl<|Ld<|Ch.block<|Es<|Lq (o2 Gp U U) rfl<|qa rfl<|Ld<|Af U rfl<|Es<|Lq (o2 Gp U U) U ?_;refine qa rfl<|Ld<|Af U rfl<|Es<|Lq (o2 Gp U U) rfl<|qa rfl<|Ld<|Ah U rfl<|Bt (by kernel_rfl)<|Nq (om U) U ?_;refine Nq (AH U Wl U U (by first|assumption|omega|(simp only[LL];omega))) U ?_;refine Nq (of Hs U) rfl<|A6 U KJ Jh U U U (by kernel_rfl) (.inl U) U U ?_;refine Bp (AI U U (by kernel_rfl) U (Fu (by omega))) (.inl U) U U ?_
  iterate 2 refine Nq (AH U Wl U U (by first|assumption|omega|(simp only[LL];omega))) U ?_
  refine Nq (of De U) rfl<|A6 U Bv Bb U U U (by kernel_rfl) (.inl U) U U ?_;refine Bp (AI U U (by kernel_rfl) U (Fu (by omega))) (.inl U) U U ?_;refine Nq (AH U Wl U U (by first|assumption|omega|(simp only[LL];omega))) U ?_;refine Nq (of FG U) rfl<|A6 U BJ B9 U U U (by kernel_rfl) (.inl U) U U ?_;refine Bp (AI U U (by kernel_rfl) U (IA)) (.inl U) U U ?_;refine Nq (AH U Wl U U (by first|assumption|omega|(simp only[LL];omega))) U ?_;refine Nq (oa U) rfl<|Au<|Es<|qm rfl<|qa rfl<|Ld ?_;refine Ab (Er U ?_);show AV.str ([110,111,100,101]++[32]++Cp te++[32]++Cp n++Zn ar)=AV.str (OK [32] ([110,111,100,101]::Cp te::Cp n::ar.map Cp));rw[DU,DU,LA];simp only[List.append_assoc]
 ·refine Aq (fn:=Tryz.f95) U U (by kernel_rfl) U U U U ?_;refine Es<|Lo (A4 1 U U U U) rfl<|qa rfl<|Ld<|As (by kernel_rfl) ?_;refine Bp (AI U U (by kernel_rfl) U (IB)) (.inl U) U rfl<|Nq (of Df U) rfl<|A6 U E8 E6 U U U (by kernel_rfl) (.inl U) U rfl<|Nq (A8 (a:=6) (b:=1) U Ck U U (by omega)) U ?_;refine Nq (Di (k:=5) U B2 D0 U U (by omega) U) U ?_;refine Nq (Av U U Gs D0) rfl<|Nq (oa U) rfl<|Au<|Aa<|Es<|Lq (of Df U) rfl<|Lo (l1 E8 E6 U) rfl<|Ld<|Ch.block<|Es<|Lq (o2 Gp U U) rfl<|qa rfl<|Ld<|Af U rfl<|Es<|Lq (o2 Gp U U) U ?_;refine qa rfl<|Ld<|Af U rfl<|Es<|Lq (o2 Gp U U) rfl<|qa rfl<|Ld<|Af U rfl<|Es<|Lq (o2 Gp U U) rfl<|qa rfl<|Ld<|Ah U rfl<|Ai<|qm U ?_;refine Lq (AH U Wl U U (by first|assumption|omega|(simp only[LL];omega))) U ?_;refine Lq (of E1 U) rfl<|Lo (l1 Bv Bb U) U ?_;refine Lo (Ad U U (by kernel_rfl) U (Cb.Cs (Fu (by omega)))) U ?_
  refine Lq (AH U Wl U U (by first|assumption|omega|(simp only[LL];omega))) U ?_;refine qa rfl<|Ld<|Es<|qm rfl<|qa rfl<|Ld ?_;refine Ab (Er U ?_);show AV.str ([101,110,116,101,114]++[32]++Cp a)=AV.str (OK [32] [[101,110,116,101,114],Cp a]);rw[DU];simp[OK]
abbrev uM:= {x:VI//l5 x∧x.alts.length≤4000∧x.to.length≤4000∧x.args.length≤4000}
noncomputable def KP5:=Wa KP4 95 (fun x:uM=>[.agg (WN x.1)]) (fun x=> .str (OK [32] (af x.1)))
theorem UA {x:VI} (hP:l5 x) (h1:x.alts.length≤4000) (h2:x.to.length≤4000) (h3:x.args.length≤4000):KP5 95 [.agg (WN x)]=some (.str (OK [32] (af x))):=
 A3 (f:=95) (enc:=fun x:uM=>[.agg (WN x.1)]) (res:=fun x=> .str (OK [32] (af x.1))) (by
  rintro⟨a,_⟩ ⟨b,_⟩ h;obtain rfl:=Js _ _ (AV.agg.inj (List.cons.inj h).1);rfl) ⟨x,hP,h1,h2,h3⟩
theorem uN:∀l:List (List UInt8),(OK [32] l).length≤Xv l+l.length
 | []=>Qo _
 |a::l=>by
  show(a++l.flatMap ([32]++·)).length≤_;rw[Qm,Fv];simp only[Xv,List.map_cons,List.sum_cons,List.length_cons,List.length_nil];omega
theorem yx (c:Cm) (hf:Fits c) (hc:CV c=true):Cb (EK KP5) 54 [.agg (CG c)] S0 (.str (XD c)):=by
 refine Aq (fn:=Tryz.f54) U U (by kernel_rfl) U U U U ?_;have hs:=MN hc;have hp:=MO hc;have aB:=hs.cons;have aZ:=hs.Co;have xh:=hs.ins;refine Es<|Lo (A4 1 U U U U) rfl<|qa rfl<|Ld<|Es<|qa rfl<|Ld<|Aa<|Es<|qa rfl<|Ld<|Ch.block ?_;refine Aw (fun i:Nat=>([(4,.int .i64 (i:Nat)),(3,.str (CU (Zm c i))),(1,.ptr 0 0)],WZ 1 0 [] [(0,some (.cells (CG c) 28 false))])) (fun i=>c.cons.length-i) (fun i=>i≤c.cons.length∧(CU (Zm c i)).length≤5000*i) 0 ⟨Qo _,Qj _⟩ U (Ao (by repeat' constructor)) ?_;rintro i ⟨hi,hw⟩;dsimp only at hi hw⊢;by_cases h:i<c.cons.length
 ·have hid:=A7 AN h;have hn:=(hp.cons _ (Ql h)).2;have ln:=B6 hn;have lc:=hf.iW _ (Ql h);have Fu:=Fu hn;have e:=KB h;have ej:OK [32] (ja c.cons[i])=[99,111,110]++[32]++c.cons[i].1++[32]++Cp c.cons[i].2:=by unfold ja;rw[DU,DU];simp[OK]
  focus
   refine Aa<|Es<|qm rfl<|Lq (of BI U) rfl<|Lq (of BA U) rfl<|Lo (l1 Bn Bk U) rfl<|Lq (ol D3 U) rfl<|Lq (o2 Ck U U) rfl<|Ld ?_;refine Ec U (fun g1=>?_) (fun g1=>?_);have h1:=dT g1;refine Ac<|Aa<|Ch.block<|Bt (by kernel_rfl)<|Nq (om U) U ?_;refine Nq (AH U Wl U U (by first|assumption|omega|(simp only[LL];omega))) U ?_;refine Nq (of BI U) rfl<|Nq (of BA U) rfl<|A6 U Bn Bk U U U (by kernel_rfl) (.inl U) U rfl<|Nq (om U) rfl<|Nq (Ae U D3 BB U U ‹_›) rfl<|Nq (Az U Fb U (Qc U)) rfl<|Nq (Av U U Gs D0) U ?_;iterate 2 refine Nq (AH U Wl U U (by first|assumption|omega|(simp only[LL];omega))) U ?_
   refine Nq (of BI U) rfl<|Nq (of BA U) rfl<|A6 U Bn Bk U U U (by kernel_rfl) (.inl U) U rfl<|Nq (om U) rfl<|Nq (Ae U D3 BB U U ‹_›) rfl<|Nq (Az U Fw U (Qc U)) rfl<|Nq (Av U U Bv Bb) U ?_;refine Bp (AI U U (by kernel_rfl) U (Fu)) (.inl U) U U ?_;iterate 2 refine Nq (AH U Wl U U (by first|assumption|omega|(simp only[LL];omega))) U ?_
   refine Nq (oa U) rfl<|Au<|Ai<|qm U ?_;refine Lq (Ap (b:=1) U Ck U U (by omega)) U ?_;refine qa rfl<|Ld ?_;rotate_left;have h1:=dF g1;exact absurd h1 (by omega)
  refine⟨i+1,⟨h,by rw[e,Qm,ej];simp only[Qm,List.length_cons,List.length_nil];omega⟩,by show c.cons.length-(i+1)<c.cons.length-i;omega,rfl,rfl,Ao ⟨rfl,?_,rfl,trivial⟩⟩;show some (AV.str (CU (Zm c i)++[99,111,110,32]++c.cons[i].1++[32]++Cp c.cons[i].2++[10]))=some (.str (CU (Zm c (i+1))));rw[e,ej];simp only[List.append_assoc,List.cons_append,List.nil_append]
 ·obtain rfl:i=c.cons.length:=by omega
  focus
   refine Aa<|Es<|qm rfl<|Lq (of BI U) rfl<|Lq (of BA U) rfl<|Lo (l1 Bn Bk U) rfl<|Lq (ol D3 U) rfl<|Lq (o2 Ck U U) rfl<|Ld ?_;refine Ec U (fun g1=>?_) (fun g1=>?_);have h1:=dT g1;exact absurd h1 (by omega);have h1:=dF g1;refine A1<|AS rfl<|Aa<|Es<|qa rfl<|Ld<|Ch.block ?_;rotate_left
  generalize hW1:CU (Zm c c.cons.length)=W1 at*;refine Aw (fun i:Nat=>([(5,.int .i64 (i:Nat)),(3,.str (W1++CU (cf c i))),(1,.ptr 0 0)],WZ 1 0 [] [(0,some (.cells (CG c) 28 false))])) (fun i=>c.Co.length-i) (fun i=>i≤c.Co.length∧(CU (cf c i)).length≤5000*i) 0 ⟨Qo _,Qj _⟩ U (Ao ⟨rfl,?_,rfl,trivial⟩) ?_
  ·show some (AV.str W1)=some (.str (W1++[]));rw[List.append_nil]
  rintro i ⟨hi,pW⟩;dsimp only at hi pW⊢;by_cases h:i<c.Co.length
  ·have hid:=A7 AN h;have h':i<c.Cj.length:=by rw[hs.Cj];exact h
   have hid2:=A7 Bi h';have hn:=(hp.Co _ (Ql h)).2;have Xp:=hp.Cj _ (Ql h');have ln:=B6 hn;have ln2:=B6 Xp;have lc:=hf.iX _ (Ql h);have e:=M7 h h';have ej:OK [32] (jb c.Co[i] c.Cj[i])=[102,117,110]++[32]++c.Co[i].1++[32]++Cp c.Co[i].2++[32]++Cp c.Cj[i]:=by unfold jb;rw[DU,DU,DU];simp[OK]
   have hlw:(W1++CU (cf c i)).length≤200000:=by rw[Qm];omega
   generalize hW:W1++CU (cf c i)=W at*;focus
    refine Aa<|Es<|qm rfl<|Lq (of BI U) rfl<|Lq (of BF U) rfl<|Lo (l1 Bn Bk U) rfl<|Lq (ol D3 U) rfl<|Lq (o2 Ck U U) rfl<|qm U ?_;refine Lb U (fun g2=>?_) (fun g2=>?_);have h2:=dT g2;refine Lh U ‹_› (om U)<|Lh U ‹_› (of EA U)<|Lg U ‹_› (l1 BJ B9 U)<|Lh U ‹_› (ol Ea U)<|Lh U ‹_› (o2 Ck U U)<|Lq (oT U ‹_› U) rfl<|Ld ?_;refine Ec U (fun g3=>?_) (fun g3=>?_);have h3:=dT g3;refine Ac<|Aa<|Ch.block<|Bt (by kernel_rfl)<|Nq (om U) U ?_;refine Nq (AH U Wl U U (by first|assumption|omega|(simp only[LL];omega))) U ?_;refine Nq (of BI U) rfl<|Nq (of BF U) rfl<|A6 U Bn Bk U U U (by kernel_rfl) (.inl U) U rfl<|Nq (om U) rfl<|Nq (Ae U D3 BB U U ‹_›) rfl<|Nq (Az U Fb U (Qc U)) rfl<|Nq (Av U U Gs D0) U ?_;iterate 2 refine Nq (AH U Wl U U (by first|assumption|omega|(simp only[LL];omega))) U ?_
    refine Nq (of BI U) rfl<|Nq (of BF U) rfl<|A6 U Bn Bk U U U (by kernel_rfl) (.inl U) U rfl<|Nq (om U) rfl<|Nq (Ae U D3 BB U U ‹_›) rfl<|Nq (Az U Fw U (Qc U)) rfl<|Nq (Av U U Bv Bb) U ?_;refine Bp (AI U U (by kernel_rfl) U (Fu (by omega))) (.inl U) U U ?_;iterate 2 refine Nq (AH U Wl U U (by first|assumption|omega|(simp only[LL];omega))) U ?_
    refine Nq (of EA U) rfl<|A6 U BJ B9 U U U (by kernel_rfl) (.inl U) U rfl<|Nq (om U) rfl<|Nq (Ae U Ea Bb U U ‹_›) rfl<|Nq (Av U U Bv Bb) U ?_;refine Bp (AI U U (by kernel_rfl) U (Fu (by omega))) (.inl U) U U ?_;iterate 2 refine Nq (AH U Wl U U (by first|assumption|omega|(simp only[LL];omega))) U ?_
    refine Nq (oa U) rfl<|Au<|Ai<|qm U ?_;refine Lq (Ap (b:=1) U Ck U U (by omega)) U ?_;refine qa rfl<|Ld ?_;rotate_left;have h3:=dF g3;exact absurd h3 (by omega);have h2:=dF g2;exact absurd h2 (by omega)
   refine⟨i+1,⟨h,by rw[e,Qm,ej];simp only[Qm,List.length_cons,List.length_nil];omega⟩,by show c.Co.length-(i+1)<c.Co.length-i;omega,rfl,rfl,Ao ⟨rfl,?_,rfl,trivial⟩⟩;show some (AV.str (W++[102,117,110,32]++c.Co[i].1++[32]++Cp c.Co[i].2++[32]++Cp c.Cj[i]++[10]))=some (.str (W1++CU (cf c (i+1))));rw[e,ej,←hW];simp only[List.append_assoc,List.cons_append,List.nil_append]
  ·obtain rfl:i=c.Co.length:=by omega
   focus
    refine Aa<|Es<|qm rfl<|Lq (of BI U) rfl<|Lq (of BF U) rfl<|Lo (l1 Bn Bk U) rfl<|Lq (ol D3 U) rfl<|Lq (o2 Ck U U) rfl<|qm U ?_;refine Lb U (fun g2=>?_) (fun g2=>?_);have h2:=dT g2;exact absurd h2 (by omega);have h2:=dF g2;iterate 5 refine Lk U ‹_› ?_
    refine Lq (oF U ‹_› U) rfl<|Ld<|Af U rfl<|A1<|AS rfl<|Aa<|Es<|qa rfl<|Ld<|Ch.block ?_;rotate_left
   have hlW:(W1++CU (cf c c.Co.length)).length≤200000:=by rw[Qm];omega
   generalize hW2:W1++CU (cf c c.Co.length)=W2 at*;clear pW hi h hw;refine Aw (fun i:Nat=>([(6,.int .i64 (i:Nat)),(3,.str (W2++CU (cg c i))),(1,.ptr 0 0)],WZ 1 0 [] [(0,some (.cells (CG c) 28 false))])) (fun i=>c.ins.length-i) (fun i=>i≤c.ins.length∧(CU (cg c i)).length≤1000001*i) 0 ⟨Qo _,Qj _⟩ U (Ao ⟨rfl,?_,rfl,trivial⟩) ?_
   ·show some (AV.str W2)=some (.str (W2++[]));rw[List.append_nil]
   rintro i ⟨hi,pW⟩;dsimp only at hi pW⊢;by_cases h:i<c.ins.length
   ·have hid:=A7 Db h;have hm:=Ql h;have hP:=hp.ins _ hm;have g1:=hf.alts _ hm;have g2:=hf.to _ hm;have g3:=hf.args _ hm;have UA:=UA hP g1 g2 g3;have ei:=U2 hP g1 g2 g3;have hjl:=uN (af c.ins[i]);have e:=M0 h;have hlw:(W2++CU (cg c i)).length≤2000000000:=by rw[Qm];omega
    generalize hW:W2++CU (cg c i)=W at*;focus
     refine Aa<|Es<|qm rfl<|Lq (of Bf U) rfl<|Lo (l1 Dg Dd U) rfl<|Lq (ol FR U) rfl<|Lq (o2 Ck U U) rfl<|Ld ?_;refine Ec U (fun g4=>?_) (fun g4=>?_);have h4:=dT g4;refine Ac<|Aa<|Ch.block<|Ai<|qm rfl<|Lq (of Bf U) rfl<|Lo (l1 Dg Dd U) rfl<|qm rfl<|Lq (Ae U FR BV U U ‹_›) rfl<|Lq (AP U U Gr BV (Qc U)) U ?_;refine Lo (Ad U U (by kernel_rfl) U (Cb.Cs (UA))) U ?_;iterate 2 refine Lq (AH U Wl U U (by first|assumption|omega|(simp only[LL];omega))) U ?_
     refine qa rfl<|Ld<|Ai<|qm U ?_;refine Lq (Ap (b:=1) U Ck U U (by omega)) U ?_;refine qa rfl<|Ld ?_;rotate_left;have h4:=dF g4;exact absurd h4 (by omega)
    refine⟨i+1,⟨h,by rw[e,Qm,Qm,List.length_singleton];omega⟩,by show c.ins.length-(i+1)<c.ins.length-i;omega,rfl,rfl,Ao ⟨rfl,?_,rfl,trivial⟩⟩;show some (AV.str (W++OK [32] (af c.ins[i])++[10]))=some (.str (W2++CU (cg c (i+1))));rw[e,←hW,List.append_assoc,List.append_assoc]
   ·obtain rfl:i=c.ins.length:=by omega
    focus
     refine Aa<|Es<|qm rfl<|Lq (of Bf U) rfl<|Lo (l1 Dg Dd U) rfl<|Lq (ol FR U) rfl<|Lq (o2 Ck U U) rfl<|Ld ?_;refine Ec U (fun g3=>?_) (fun g3=>?_);have h3:=dT g3;exact absurd h3 (by omega);have h3:=dF g3;refine A1<|AS rfl<|Es<|qm rfl<|qa rfl<|Ld ?_;refine Ab (Er U ?_);rotate_left
    show AV.str (W2++CU (cg c c.ins.length))=_;rw[←hW2,←hW1,←DP,←DP];unfold XD lz Zm cf cg;rw[List.take_length,List.take_length,List.take_of_length_le (by rw[List.length_zipWith];omega),List.append_assoc]
abbrev PriT:= {c:Cm//Fits c∧CV c=true}
noncomputable def KP6:=Wa KP5 54 (fun p:PriT=>[.agg (CG p.1)]) (fun p=> .str (XD p.1))
theorem UC {c:Cm} (h:Fits c) (hc:CV c=true):KP6 54 [.agg (CG c)]=some (.str (XD c)):=
 A3 (f:=54) (enc:=fun p:PriT=>[.agg (CG p.1)]) (res:=fun p=> .str (XD p.1)) (by
  rintro⟨a,_⟩ ⟨b,_⟩ h;obtain rfl:=Hb (List.cons.inj h).1;rfl) ⟨c,h,hc⟩
theorem Tx (c:Cm) (hf:Fits c):Cb (EK KP6) 20 [.agg (CG c)] S0 (if CV c then .tuple [.str (XD c),.int .i64 0]else .tuple [.str [],.int .i64 2]):=by
 refine Aq (fn:=Tryz.f20) U U (by kernel_rfl) U U U U ?_;cases hc:CV c with
 |true=>
  have UC:=UC hf hc;have G9:=G9 hf;rw[hc]at G9;refine Es<|Lo (A4 1 U U U U) U ?_;iterate 2 refine qa U ?_
  refine Ld<|Aa<|Es<|Lo (AA U Em D5 U U (Qc U)) U ?_;refine Lo (Ad U U (by kernel_rfl) U (Cb.Cs (G9))) rfl<|Lq (on U) rfl<|Ld<|Af U rfl<|Ac<|Es<|Lo (AA U Em D5 U U (Qc U)) U ?_;refine Lo (Ad U U (by kernel_rfl) U (Cb.Cs (UC))) U ?_;iterate 2 refine qa U ?_
  refine Ld ?_;refine Ab ⟨.inl U,rfl,rfl,rfl,_,_,_,(An U (An U U)),rfl,rfl,?_⟩;rfl
 |false=>
  have G9:=G9 hf;rw[hc]at G9;refine Es<|Lo (A4 1 U U U U) U ?_;iterate 2 refine qa U ?_
  refine Ld<|Aa<|Es<|Lo (AA U Em D5 U U (Qc U)) U ?_;refine Lo (Ad U U (by kernel_rfl) U (Cb.Cs (G9))) rfl<|Lq (on U) rfl<|Ld<|Ah U rfl<|Es ?_;iterate 2 refine qa U ?_
  refine Ld ?_;refine Ab ⟨.inl U,rfl,rfl,rfl,_,_,_,(An U (An U U)),rfl,rfl,?_⟩;rfl
noncomputable def KP7:=Wa KP6 20 (fun p:Z7=>[.agg (CG p.1)]) (fun p=>if CV p.1 then .tuple [.str (XD p.1),.int .i64 0]else .tuple [.str [],.int .i64 2])
theorem LD {c:Cm} (h:Fits c):KP7 20 [.agg (CG c)]=some (if CV c then .tuple [.str (XD c),.int .i64 0]else .tuple [.str [],.int .i64 2]):=
 A3 (f:=20) (enc:=fun p:Z7=>[.agg (CG p.1)]) (res:=fun p=>if CV p.1 then .tuple [.str (XD p.1),.int .i64 0]else .tuple [.str [],.int .i64 2]) (by
  rintro⟨a,_⟩ ⟨b,_⟩ h;obtain rfl:=Hb (List.cons.inj h).1;rfl) ⟨c,h⟩
theorem uO (a:List Int) (ha:a.length≤4000):Cb (EK KP7) 15 [Cq CY 1 a,Cq CY 1 a] S0 (.bool true):=by
 refine Aq (fn:=Tryz.f15) U U (by kernel_rfl) U U U U ?_;focus
  refine Es<|qa rfl<|Ld<|Aa<|Es<|qm rfl<|Lq (ol Ea U) rfl<|qm rfl<|Lq (ol Ea U) rfl<|Lq (o2 Ck U U) rfl<|Ld ?_;refine Ec U (fun g1=>?_) (fun g1=>?_);have h1:=nT g1;exact absurd h1 (by omega);have h1:=nF g1;refine Ac<|Aa<|Es<|qa rfl<|Ld<|Ch.block ?_;rotate_left
 refine Aw (fun i:Nat=>([(5,.int .i64 (i:Nat)),(1,Cq CY 1 a),(0,Cq CY 1 a)],WZ 0 0 [] [])) (fun i=>a.length-i) (fun i=>i≤a.length) 0 (Qo _) U (Ao (by repeat' constructor)) ?_;rintro i hi;dsimp only at hi⊢;by_cases h:i<a.length
 ·have hp:=A7 Bi h;focus
   refine Aa<|Es ?_;iterate 2 refine qm U ?_
   refine Lq (ol Ea U) rfl<|Lq (o2 Ck U U) rfl<|Ld ?_;refine Ec U (fun g2=>?_) (fun g2=>?_);have h2:=dT g2;refine Ac<|Aa<|Ch.block<|As (by kernel_rfl) ?_;iterate 2 refine Nq (om U) U ?_
   refine Nq (Ae U Ea Bb U U ‹_›) rfl<|Nq (Av U U Bv Bb) U ?_;iterate 2 refine Nq (om U) U ?_
   refine Nq (Ae U Ea Bb U U ‹_›) rfl<|Nq (Av U U Bv Bb) rfl<|Nq (o2 Ck U U) rfl<|Au ?_;refine Ec U (fun g3=>?_) (fun g3=>?_);have h3:=nT g3;exact absurd h3 (by omega);have h3:=nF g3;refine Ac<|Ai<|qm U ?_;refine Lq (Ap (b:=1) U Ck U U (by omega)) U ?_;refine qa rfl<|Ld ?_;rotate_left;have h2:=dF g2;exact absurd h2 (by omega)
  exact⟨i+1,h,by show a.length-(i+1)<a.length-i;omega,rfl,rfl,Ao (by repeat' constructor)⟩
 ·focus
   refine Aa<|Es ?_;iterate 2 refine qm U ?_
   refine Lq (ol Ea U) rfl<|Lq (o2 Ck U U) rfl<|Ld ?_;refine Ec U (fun g2=>?_) (fun g2=>?_);have h2:=dT g2;exact absurd h2 (by omega);have h2:=dF g2;refine A1<|AS rfl<|Es<|qa rfl<|Ld ?_;refine Ab (Er U ?_);exact Ag U
abbrev uP:= {l:List Int//l.length≤4000}
noncomputable def KS1:=Wa KP7 15 (fun p:uP=>[Cq CY 1 p.1,Cq CY 1 p.1]) (fun _=> .bool true)
theorem UH {a:List Int} (ha:a.length≤4000):KS1 15 [Cq CY 1 a,Cq CY 1 a]=some (.bool true):=
 A3 (f:=15) (enc:=fun p:uP=>[Cq CY 1 p.1,Cq CY 1 p.1]) (res:=fun _=> .bool true) (fun _ _ _=>rfl) ⟨a,ha⟩
theorem uQ (a:CD):WE true (ZE (.flat [.string,.int .i64]) (.agg (Cy a)) (.agg (Cy a)))=some (.bool false):=by
 obtain⟨a1,a2⟩:=a;show WE true ((some (Wo a1 a1)).bind fun r=>bif r then(some (decide (a2=a2))).bind (fun r=>bif r then some true else some false)else some false)=_;rw[Bu,decide_eq_true rfl];simp[WE]
theorem Ti (a:List CD) (ha:a.length≤4000):Cb (EK KS1) 98 [Cq Cy 2 a,Cq Cy 2 a] S0 (.bool true):=by
 refine Aq (fn:=Tryz.f98) U U (by kernel_rfl) U U U U ?_;focus
  refine Es<|qa rfl<|Ld<|Aa<|Es<|qm rfl<|Lq (ol D3 U) rfl<|qm rfl<|Lq (ol D3 U) rfl<|Lq (o2 Ck U U) rfl<|Ld ?_;refine Ec U (fun g1=>?_) (fun g1=>?_);have h1:=nT g1;exact absurd h1 (by omega);have h1:=nF g1;refine Ac<|Aa<|Es<|qa rfl<|Ld<|Ch.block ?_;rotate_left
 refine Aw (fun i:Nat=>([(5,.int .i64 (i:Nat)),(1,Cq Cy 2 a),(0,Cq Cy 2 a)],WZ 0 0 [] [])) (fun i=>a.length-i) (fun i=>i≤a.length) 0 (Qo _) U (Ao (by repeat' constructor)) ?_;rintro i hi;dsimp only at hi⊢;by_cases h:i<a.length
 ·have hp:=A7 AN h;have he:=uQ a[i];focus
   refine Aa<|Es ?_;iterate 2 refine qm U ?_
   refine Lq (ol D3 U) rfl<|Lq (o2 Ck U U) rfl<|Ld ?_;refine Ec U (fun g2=>?_) (fun g2=>?_);have h2:=dT g2;refine Ac<|Aa<|Ch.block<|As (by kernel_rfl) ?_;iterate 2 refine Nq (om U) U ?_
   refine Nq (Ae U D3 BB U U ‹_›) rfl<|Nq (AP U U Jj BB (Qc U)) U ?_;iterate 2 refine Nq (om U) U ?_
   refine Nq (Ae U D3 BB U U ‹_›) rfl<|Nq (AP U U Jj BB (Qc U)) rfl<|Nq (DN (neg:=true) U OW Pv U U ‹_›) rfl<|Au<|Af U rfl<|Ac<|Ai<|qm U ?_;refine Lq (Ap (b:=1) U Ck U U (by omega)) U ?_;refine qa rfl<|Ld ?_;rotate_left;have h2:=dF g2;exact absurd h2 (by omega)
  exact⟨i+1,h,by show a.length-(i+1)<a.length-i;omega,rfl,rfl,Ao (by repeat' constructor)⟩
 ·focus
   refine Aa<|Es ?_;iterate 2 refine qm U ?_
   refine Lq (ol D3 U) rfl<|Lq (o2 Ck U U) rfl<|Ld ?_;refine Ec U (fun g2=>?_) (fun g2=>?_);have h2:=dT g2;exact absurd h2 (by omega);have h2:=dF g2;refine A1<|AS rfl<|Es<|qa rfl<|Ld ?_;refine Ab (Er U ?_);exact Ag U
abbrev uR:= {l:List CD//l.length≤4000}
noncomputable def KS2:=Wa KS1 98 (fun p:uR=>[Cq Cy 2 p.1,Cq Cy 2 p.1]) (fun _=> .bool true)
theorem uS {a:List CD} (ha:a.length≤4000):KS2 98 [Cq Cy 2 a,Cq Cy 2 a]=some (.bool true):=
 A3 (f:=98) (enc:=fun p:uR=>[Cq Cy 2 p.1,Cq Cy 2 p.1]) (res:=fun _=> .bool true) (fun _ _ _=>rfl) ⟨a,ha⟩
theorem yy (a b:List CD) (ha:a.length≤4000) (hb:b.length≤4000):Cb (EK KS2) 56 [.agg [Cq Cy 2 a,Cq Cy 2 b],.agg [Cq Cy 2 a,Cq Cy 2 b]] S0 (.bool true):=by
 refine Aq (fn:=Tryz.f56) U U (by kernel_rfl) U U U rfl<|Es<|Lo (A4 1 U U U U) rfl<|Lo (A4 2 U U U U) rfl<|qa rfl<|Ld<|Es<|Lq (of BA U) rfl<|Lo (l1 Bn Bk U) rfl<|Lq (of BA U) rfl<|Lo (l1 Bn Bk U) U ?_;refine Lo (Ad U U (by kernel_rfl) U (Cb.Cs (uS (by omega)))) U ?_;refine qm rfl<|Lh U U (of BF U)<|Lg U U (l1 Bn Bk U)<|Lh U U (of BF U)<|Lg U U (l1 Bn Bk U) ?_;refine Lg U U (Ad U U (by kernel_rfl) U (Cb.Cs (uS (by omega)))) ?_;refine Lq (oT U U U) rfl<|qa rfl<|Ld ?_;refine Ab (Er U ?_);exact Ag U
abbrev uT:= {p:List CD×List CD//p.1.length≤4000∧p.2.length≤4000}
noncomputable def KS3:=Wa KS2 56 (fun p:uT=>[.agg [Cq Cy 2 p.1.1,Cq Cy 2 p.1.2],.agg [Cq Cy 2 p.1.1,Cq Cy 2 p.1.2]]) (fun _=> .bool true)
theorem hit_56 {a b:List CD} (ha:a.length≤4000) (hb:b.length≤4000):KS3 56 [.agg [Cq Cy 2 a,Cq Cy 2 b],.agg [Cq Cy 2 a,Cq Cy 2 b]]=some (.bool true):=
 A3 (f:=56) (enc:=fun p:uT=>[.agg [Cq Cy 2 p.1.1,Cq Cy 2 p.1.2],.agg [Cq Cy 2 p.1.1,Cq Cy 2 p.1.2]]) (res:=fun _=> .bool true) (fun _ _ _=>rfl) ⟨(a,b),ha,hb⟩
theorem uU (a:Zl):WE true (ZE (.flat [.int .i64,.int .i64]) (.agg (XB a)) (.agg (XB a)))=some (.bool false):=by
 obtain⟨a1,a2⟩:=a;show WE true ((some (decide (a1=a1))).bind fun r=>bif r then(some (decide (a2=a2))).bind (fun r=>bif r then some true else some false)else some false)=_;simp[WE]
theorem yz (x:VI) (w1:x.alts.length≤4000) (w2:x.to.length≤4000) (w3:x.args.length≤4000):Cb (EK KS3) 57 [.agg (WN x),.agg (WN x)] S0 (.bool true):=by
 refine Aq (fn:=Tryz.f57) U U (by kernel_rfl) U U U U ?_;focus
  refine Es<|Lo (A4 1 U U U U) rfl<|Lo (A4 2 U U U U) rfl<|qa rfl<|Ld<|Aa<|Es<|Lq (of Df U) rfl<|Lo (l1 E8 E6 U) rfl<|Lq (of Df U) rfl<|Lo (l1 E8 E6 U) rfl<|Lq (o2 Gp U U) rfl<|qm U ?_;refine Lb U (fun g1=>?_) (fun g1=>?_);have h1:=nT g1;exact absurd h1 (by omega);have h1:=nF g1;refine Lh U ‹_› (of E1 U)<|Lg U ‹_› (l1 Bv Bb U)<|Lh U ‹_› (of E1 U)<|Lg U ‹_› (l1 Bv Bb U)<|Lh U ‹_› (o2 Ck U U)<|Lq (oF U ‹_› U) rfl<|qm U ?_;refine Lb U (fun g2=>?_) (fun g2=>?_);have h2:=nT g2;exact absurd h2 (by omega);have h2:=nF g2;refine Lh U ‹_› (of Hs U)<|Lg U ‹_› (l1 KJ Jh U)<|Lh U ‹_› (of Hs U)<|Lg U ‹_› (l1 KJ Jh U)<|Lh U ‹_› (o2 Hx U U)<|Lq (oF U ‹_› U) rfl<|qm U ?_;refine Lb U (fun g3=>?_) (fun g3=>?_);have h3:=nT g3;exact absurd h3 (by omega);have h3:=nF g3
  refine Lh U ‹_› (of De U)<|Lg U ‹_› (l1 Bv Bb U)<|Lh U ‹_› (of De U)<|Lg U ‹_› (l1 Bv Bb U)<|Lh U ‹_› (o2 Ck U U)<|Lq (oF U ‹_› U) rfl<|qm U ?_;refine Lb U (fun g4=>?_) (fun g4=>?_);have h4:=nT g4;exact absurd h4 (by omega);have h4:=nF g4;refine Lh U ‹_› (of Dm U)<|Lg U ‹_› (l1 E7 Ee U)<|Lh U ‹_› (ol Hm U)<|Lh U ‹_› (of Dm U)<|Lg U ‹_› (l1 E7 Ee U)<|Lh U ‹_› (ol Hm U)<|Lh U ‹_› (o2 Ck U U)<|Lq (oF U ‹_› U) rfl<|Ld ?_;refine Ec U (fun g5=>?_) (fun g5=>?_);have h5:=nT g5;exact absurd h5 (by omega);have h5:=nF g5;refine Ac<|Aa<|Es<|qa rfl<|Ld<|Ch.block ?_;rotate_left
 refine Aw (fun i:Nat=>([(5,.int .i64 (i:Nat)),(3,.ptr 1 0),(2,.ptr 0 0)],WZ 2 0 [] [(1,some (.cells (WN x) 58 false)),(0,some (.cells (WN x) 58 false))])) (fun i=>x.alts.length-i) (fun i=>i≤x.alts.length) 0 (Qo _) U (Ao (by repeat' constructor)) ?_;rintro i hi;dsimp only at hi⊢;by_cases h:i<x.alts.length
 ·have hp:=A7 Eo h;have he:=uU x.alts[i];focus
   refine Aa<|Es<|qm rfl<|Lq (of Dm U) rfl<|Lo (l1 E7 Ee U) rfl<|Lq (ol Hm U) rfl<|Lq (o2 Ck U U) rfl<|Ld ?_;refine Ec U (fun g6=>?_) (fun g6=>?_);have h6:=dT g6;refine Ac<|Aa<|Ch.block<|As (by kernel_rfl)<|Nq (of Dm U) rfl<|A6 U E7 Ee U U U (by kernel_rfl) (.inl U) U rfl<|Nq (om U) rfl<|Nq (Ae U Hm Fo U U ‹_›) rfl<|Nq (AP U U SC Fo (Qc U)) rfl<|Nq (of Dm U) rfl<|A6 U E7 Ee U U U (by kernel_rfl) (.inl U) U rfl<|Nq (om U) rfl<|Nq (Ae U Hm Fo U U ‹_›) rfl<|Nq (AP U U SC Fo (Qc U)) rfl<|Nq (DN (neg:=true) U ta tc U U ‹_›) rfl<|Au ?_;refine Af U rfl<|Ac<|Ai<|qm U ?_;refine Lq (Ap (b:=1) U Ck U U (by omega)) U ?_;refine qa rfl<|Ld ?_;rotate_left;have h6:=dF g6;exact absurd h6 (by omega)
  exact⟨i+1,h,by show x.alts.length-(i+1)<x.alts.length-i;omega,rfl,rfl,Ao (by repeat' constructor)⟩
 ·focus
   refine Aa<|Es<|qm rfl<|Lq (of Dm U) rfl<|Lo (l1 E7 Ee U) rfl<|Lq (ol Hm U) rfl<|Lq (o2 Ck U U) rfl<|Ld ?_;refine Ec U (fun g6=>?_) (fun g6=>?_);have h6:=dT g6;exact absurd h6 (by omega);have h6:=dF g6;refine A1<|AS rfl<|Es<|Lq (of E9 U) rfl<|Lo (l1 BJ B9 U) rfl<|Lq (of E9 U) rfl<|Lo (l1 BJ B9 U) U ?_;refine Lo (Ad U U (by kernel_rfl) U (Cb.Cs (UH (by omega)))) U ?_;refine qm rfl<|Lh U U (of FG U)<|Lg U U (l1 BJ B9 U)<|Lh U U (of FG U)<|Lg U U (l1 BJ B9 U) ?_;refine Lg U U (Ad U U (by kernel_rfl) U (Cb.Cs (UH (by omega)))) ?_;refine Lq (oT U U U) rfl<|qa rfl<|Ld ?_;refine Ab (Er U ?_);exact Ag U
structure InsL (x:VI):Prop where
 alts:x.alts.length≤4000
 to:x.to.length≤4000
 args:x.args.length≤4000
abbrev lD:= {x:VI//InsL x}
noncomputable def KS4:=Wa KS3 57 (fun p:lD=>[.agg (WN p.1),.agg (WN p.1)]) (fun _=> .bool true)
theorem hit_57 {x:VI} (h:InsL x):KS4 57 [.agg (WN x),.agg (WN x)]=some (.bool true):=
 A3 (f:=57) (enc:=fun p:lD=>[.agg (WN p.1),.agg (WN p.1)]) (res:=fun _=> .bool true) (fun _ _ _=>rfl) ⟨x,h⟩
theorem uV (a:Cm) (ha:Fits a):Cb (EK KS4) 22 [.agg (CG a),.agg (CG a)] S0 (.bool true):=by
 refine Aq (fn:=Tryz.f22) U U (by kernel_rfl) U U U U ?_;have w1:=ha.cons;have w2:=ha.Co;have w3:=ha.ins;have w4:=ha.Cj;focus
  refine Es<|Lo (A4 1 U U U U) rfl<|Lo (A4 2 U U U U) rfl<|qa rfl<|Ld<|Aa<|Es<|Lq (of BI U) rfl<|Lo (AA U MU Ma U U (Qc U)) rfl<|Lq (of BI U) rfl<|Lo (AA U MU Ma U U (Qc U)) U ?_;refine Lo (Ad U U (by kernel_rfl) U (Cb.Cs (hit_56 (by omega) (by omega)))) U ?_;refine Lq (on U) rfl<|qm rfl<|Lh U U (of EA U)<|Lg U U (l1 BJ B9 U)<|Lh U U (of EA U)<|Lg U U (l1 BJ B9 U) ?_;refine Lg U U (Ad U U (by kernel_rfl) U (Cb.Cs (UH (by omega)))) ?_;refine Lh U U (on U)<|Lq (oF U U U) rfl<|qm rfl<|Lh U U (of Bf U)<|Lg U U (l1 Dg Dd U)<|Lh U U (ol FR U)<|Lh U U (of Bf U)<|Lg U U (l1 Dg Dd U)<|Lh U U (ol FR U)<|Lh U U (o2 Ck U U)<|Lq (oF U U U) rfl<|Ld ?_;refine Ec U (fun g1=>?_) (fun g1=>?_);have h1:=nT g1;exact absurd h1 (by omega);have h1:=nF g1;refine Ac<|Aa<|Es<|qa rfl<|Ld<|Ch.block ?_;rotate_left
 refine Aw (fun i:Nat=>([(5,.int .i64 (i:Nat)),(3,.ptr 1 0),(2,.ptr 0 0)],WZ 2 0 [] [(1,some (.cells (CG a) 28 false)),(0,some (.cells (CG a) 28 false))])) (fun i=>a.ins.length-i) (fun i=>i≤a.ins.length) 0 (Qo _) U (Ao (by repeat' constructor)) ?_;rintro i hi;dsimp only at hi⊢;by_cases h:i<a.ins.length
 ·have hp:=A7 Db h;have q1:InsL a.ins[i]:=⟨ha.alts _ (Ql _),ha.to _ (Ql _),ha.args _ (Ql _)⟩
  focus
   refine Aa<|Es<|qm rfl<|Lq (of Bf U) rfl<|Lo (l1 Dg Dd U) rfl<|Lq (ol FR U) rfl<|Lq (o2 Ck U U) rfl<|Ld ?_;refine Ec U (fun g2=>?_) (fun g2=>?_);have h2:=dT g2;refine Ac<|Aa<|Ch.block<|As (by kernel_rfl)<|Nq (of Bf U) rfl<|A6 U Dg Dd U U U (by kernel_rfl) (.inl U) U rfl<|Nq (om U) rfl<|Nq (Ae U FR BV U U ‹_›) rfl<|Nq (AP U U Gr BV (Qc U)) rfl<|Nq (of Bf U) rfl<|A6 U Dg Dd U U U (by kernel_rfl) (.inl U) U rfl<|Nq (om U) rfl<|Nq (Ae U FR BV U U ‹_›) rfl<|Nq (AP U U Gr BV (Qc U)) U ?_;refine Bp (AI U U (by kernel_rfl) U (hit_57 (by omega))) (.inl U) U U ?_;refine Nq (on U) rfl<|Au<|Af U rfl<|Ac<|Ai<|qm U ?_;refine Lq (Ap (b:=1) U Ck U U (by omega)) U ?_;refine qa rfl<|Ld ?_;rotate_left;have h2:=dF g2;exact absurd h2 (by omega)
  exact⟨i+1,h,by show a.ins.length-(i+1)<a.ins.length-i;omega,rfl,rfl,Ao (by repeat' constructor)⟩
 ·focus
   refine Aa<|Es<|qm rfl<|Lq (of Bf U) rfl<|Lo (l1 Dg Dd U) rfl<|Lq (ol FR U) rfl<|Lq (o2 Ck U U) rfl<|Ld ?_;refine Ec U (fun g2=>?_) (fun g2=>?_);have h2:=dT g2;exact absurd h2 (by omega);have h2:=dF g2;refine A1<|AS rfl<|Es<|qa rfl<|Ld ?_;refine Ab (Er U ?_);exact Ag U
noncomputable def KS5:=Wa KS4 22 (fun p:Z7=>[.agg (CG p.1),.agg (CG p.1)]) (fun _=> .bool true)
theorem uW {x:Cm} (h:Fits x):KS5 22 [.agg (CG x),.agg (CG x)]=some (.bool true):=
 A3 (f:=22) (enc:=fun p:Z7=>[.agg (CG p.1),.agg (CG p.1)]) (res:=fun _=> .bool true) (fun _ _ _=>rfl) ⟨x,h⟩
noncomputable def KS6:=Wa KS5 22 (fun p:Z7=>[.agg (CG p.1),.agg (Rd.XQ p.1)]) (fun _=> .bool true)
theorem UF {x:Cm} (h:Fits x):KS6 22 [.agg (CG x),.agg (Rd.XQ x)]=some (.bool true):=
 A3 (f:=22) (enc:=fun p:Z7=>[.agg (CG p.1),.agg (Rd.XQ p.1)]) (res:=fun _=> .bool true) (fun _ _ _=>rfl) ⟨x,h⟩
abbrev uX:= {c:Cm//Fits c∧CV c=true∧(XD c).length≤40000}
noncomputable def KP8:=Wa KS6 21 (fun p:uX=>[.str (XD p.1)]) (fun p=> .tuple [.agg (Rd.XQ p.1),.int .i64 0])
theorem UG {c:Cm} (h:Fits c) (hc:CV c=true) (hl:(XD c).length≤40000):KP8 21 [.str (XD c)]=some (.tuple [.agg (Rd.XQ c),.int .i64 0]):=
 A3 (f:=21) (enc:=fun p:uX=>[.str (XD p.1)]) (res:=fun p=> .tuple [.agg (Rd.XQ p.1),.int .i64 0]) (by
  rintro⟨a,ha⟩ ⟨b,hb⟩ h;have h1:=LY ha.2.1;have h2:=LY hb.2.1;rw[show XD a=XD b from AV.str.inj (List.cons.inj h).1]at h1;obtain rfl:=h1.eq h2;rfl) ⟨c,h,hc,hl⟩
theorem y3 {c:Cm} (h:WL c=true):Fits c:=by
 unfold WL at h;rw[Qf,Qf]at h;obtain⟨⟨h1,h2⟩,h3⟩:=h;rw[Bool.not_eq_true',Bool.or_eq_false_iff,decide_eq_false_iff_not,decide_eq_false_iff_not]at h2;unfold Xn at h1;rw[Qf,Qf,Bool.not_eq_true',Bool.or_eq_false_iff,decide_eq_false_iff_not,decide_eq_false_iff_not]at h1;obtain⟨⟨h4,h5⟩,h6,h7⟩:=h1;have hins:∀x∈c.ins,x.alts.length≤4000∧x.to.length≤4000∧x.args.length≤4000:=fun x hx=>by
  obtain⟨i,hi,rfl⟩:=List.mem_iff_getElem.1 hx;have:=RU h3 hi;rw[NZ hi]at this;unfold cT at this;rw[Bool.not_eq_true',Bool.or_eq_false_iff,Bool.or_eq_false_iff,decide_eq_false_iff_not,decide_eq_false_iff_not,decide_eq_false_iff_not]at this;omega
 have hnm:∀l:List CD,Yo l l.length=true→∀p∈l,p.1.length≤4000:=fun l hs p hp=>by
  unfold Yo at hs;rw[List.take_length]at hs;have:=dT (List.all_eq_true.1 hs p hp);omega
 exact⟨by omega,by omega,by omega,by omega,fun x hx=>(hins x hx).1,fun x hx=>(hins x hx).2.1,fun x hx=>(hins x hx).2.2,hnm _ h6,hnm _ h7⟩
theorem Kk:K0 10 []=some (.bool true):=rfl
theorem TC (c:Cm):Cb (EK KP8) 5 [.agg (CG c)] S0 (.bool true):=by
 refine Aq (fn:=Tryz.f5) U U (by kernel_rfl) U U U U ?_;cases hs:WL c with
 |false=>
  focus
   refine Es<|Lo (A4 1 U U U U) rfl<|qa rfl<|Ld<|Aa<|Es<|Lo (AA U Em D5 U U (Qc U)) U ?_;refine Lo (Ad U U (by kernel_rfl) U (Cb.Cs (oN))) rfl<|Lq (on U) rfl<|Ld ?_;refine Ec U (fun g1=>?_) (fun g1=>?_);have h1:=FB g1;refine Es ?_;refine Lo (Ad U U (by kernel_rfl) U (Cb.Cs (Kk))) rfl<|qa rfl<|Ld ?_;refine Ab (Er U ?_);exact Ag U;have h1:=FC g1;refine Ac<|Es<|Lo (AA U Em D5 U U (Qc U)) U ?_;rotate_left
  exact absurd h1 (by rw[hs];decide)
 |true=>
  have hf:=y3 hs;have h1:=LF hf;have h2:=LD hf;have UF:=UF hf;cases hc:CV c with
  |false=>
   rw[hc]at h1 h2;have LF:KP8 19 [.agg (CG c)]=some (.tuple [.str [],.int .i64 2]):=h1;have LD:KP8 20 [.agg (CG c)]=some (.tuple [.str [],.int .i64 2]):=h2;focus
    refine Es<|Lo (A4 1 U U U U) rfl<|qa rfl<|Ld<|Aa<|Es<|Lo (AA U Em D5 U U (Qc U)) U ?_;refine Lo (Ad U U (by kernel_rfl) U (Cb.Cs (oN))) rfl<|Lq (on U) rfl<|Ld ?_;refine Ec U (fun g1=>?_) (fun g1=>?_);have h1:=FB g1;refine Es ?_;refine Lo (Ad U U (by kernel_rfl) U (Cb.Cs (Kk))) rfl<|qa rfl<|Ld ?_;refine Ab (Er U ?_);exact Ag U;have h1:=FC g1;refine Ac<|Es<|Lo (AA U Em D5 U U (Qc U)) U ?_;refine Lo (Ad U U (by kernel_rfl) U (Cb.Cs (LF))) rfl<|qm U ?_;iterate 2 refine Lq (oe U) U ?_
    iterate 2 refine qa U ?_
    refine Ld<|Es<|Lo (AA U Em D5 U U (Qc U)) U ?_;refine Lo (Ad U U (by kernel_rfl) U (Cb.Cs (LD))) rfl<|qm U ?_;iterate 2 refine Lq (oe U) U ?_
    iterate 2 refine qa U ?_
    refine Ld<|Aa<|Es ?_;iterate 2 refine qm U ?_
    refine Lq (o2 RA U U) rfl<|qm U ?_;iterate 2 refine Lh U U (om U) ?_
    refine Lh U U (Bd U Wl U U U U)<|Lq (oF U U U) rfl<|Ld<|Af U rfl<|Ac<|Aa<|Es<|qm rfl<|Lq (o2 RA U U) rfl<|qm U ?_;iterate 3 refine Lk U U ?_
    refine Lq (oT U U U) rfl<|Ld<|Ah U rfl<|Es ?_;refine Lo (Ad U U (by kernel_rfl) U (Cb.Cs (Kk))) rfl<|qa rfl<|Ld ?_;refine Ab (Er U ?_);exact Ag U
  |true=>
   rw[hc]at h1 h2;have LF:KP8 19 [.agg (CG c)]=some (.tuple [.str (XD c),.int .i64 0]):=h1;have LD:KP8 20 [.agg (CG c)]=some (.tuple [.str (XD c),.int .i64 0]):=h2;by_cases hl:(XD c).length≤40000
   ·have UG:=UG hf hc hl;focus
     refine Es<|Lo (A4 1 U U U U) rfl<|qa rfl<|Ld<|Aa<|Es<|Lo (AA U Em D5 U U (Qc U)) U ?_;refine Lo (Ad U U (by kernel_rfl) U (Cb.Cs (oN))) rfl<|Lq (on U) rfl<|Ld ?_;refine Ec U (fun g1=>?_) (fun g1=>?_);have h1:=FB g1;refine Es ?_;refine Lo (Ad U U (by kernel_rfl) U (Cb.Cs (Kk))) rfl<|qa rfl<|Ld ?_;refine Ab (Er U ?_);exact Ag U;have h1:=FC g1;refine Ac<|Es<|Lo (AA U Em D5 U U (Qc U)) U ?_;refine Lo (Ad U U (by kernel_rfl) U (Cb.Cs (LF))) rfl<|qm U ?_;iterate 2 refine Lq (oe U) U ?_
     iterate 2 refine qa U ?_
     refine Ld<|Es<|Lo (AA U Em D5 U U (Qc U)) U ?_;refine Lo (Ad U U (by kernel_rfl) U (Cb.Cs (LD))) rfl<|qm U ?_;iterate 2 refine Lq (oe U) U ?_
     iterate 2 refine qa U ?_
     refine Ld<|Aa<|Es ?_;iterate 2 refine qm U ?_
     refine Lq (o2 RA U U) rfl<|qm U ?_;iterate 2 refine Lh U U (om U) ?_
     refine Lh U U (Bd U Wl U U U U)<|Lq (oF U U U) rfl<|Ld ?_;refine Ec U (fun g2=>?_) (fun g2=>?_);have h2:=bnT g2;refine Es<|qa rfl<|Ld ?_;refine Ab (Er U ?_);refine Ag ?_;rotate_left;have h2:=bnF g2;refine Ac<|Aa<|Es<|qm rfl<|Lq (o2 RA U U) rfl<|qm rfl<|Lh U U (om U)<|Lh U U (AD U U U U Wl U)<|Lh U U (o2 Ck U U)<|Lq (oF U U U) rfl<|Ld ?_;refine Ec U (fun g3=>?_) (fun g3=>?_);have h3:=dT g3;exact absurd h3 (by omega);have h3:=dF g3;refine Ac<|Es<|qm U ?_;refine Lo (Ad U U (by kernel_rfl) U (Cb.Cs (UG))) rfl<|qm U ?_;iterate 2 refine Lq (oe U) U ?_
     refine Lo (Bc 2 U pF U) rfl<|Ax (AK U D5 U U U U U U) U rfl<|qa rfl<|Ld<|Es<|qm rfl<|Lq (o2 RA U U) rfl<|qm U ?_;iterate 2 refine Lg U U (AA U Em D5 U U (Qc U)) ?_
     refine Lg U U (Ad U U (by kernel_rfl) U (Cb.Cs (UF)))<|Lq (oT U U U) rfl<|qm U ?_;refine Lg U U (Ad U U (by kernel_rfl) U (Cb.Cs (Kk)))<|Lq (oT U U U) rfl<|qa rfl<|Ld ?_;refine Ab (Er U ?_);exact Ag U
    exact absurd U h2
   ·focus
     refine Es<|Lo (A4 1 U U U U) rfl<|qa rfl<|Ld<|Aa<|Es<|Lo (AA U Em D5 U U (Qc U)) U ?_;refine Lo (Ad U U (by kernel_rfl) U (Cb.Cs (oN))) rfl<|Lq (on U) rfl<|Ld ?_;refine Ec U (fun g1=>?_) (fun g1=>?_);have h1:=FB g1;refine Es ?_;refine Lo (Ad U U (by kernel_rfl) U (Cb.Cs (Kk))) rfl<|qa rfl<|Ld ?_;refine Ab (Er U ?_);exact Ag U;have h1:=FC g1;refine Ac<|Es<|Lo (AA U Em D5 U U (Qc U)) U ?_;refine Lo (Ad U U (by kernel_rfl) U (Cb.Cs (LF))) rfl<|qm U ?_;iterate 2 refine Lq (oe U) U ?_
     iterate 2 refine qa U ?_
     refine Ld<|Es<|Lo (AA U Em D5 U U (Qc U)) U ?_;refine Lo (Ad U U (by kernel_rfl) U (Cb.Cs (LD))) rfl<|qm U ?_;iterate 2 refine Lq (oe U) U ?_
     iterate 2 refine qa U ?_
     refine Ld<|Aa<|Es ?_;iterate 2 refine qm U ?_
     refine Lq (o2 RA U U) rfl<|qm U ?_;iterate 2 refine Lh U U (om U) ?_
     refine Lh U U (Bd U Wl U U U U)<|Lq (oF U U U) rfl<|Ld ?_;refine Ec U (fun g2=>?_) (fun g2=>?_);have h2:=bnT g2;refine Es<|qa rfl<|Ld ?_;refine Ab (Er U ?_);refine Ag ?_;rotate_left;have h2:=bnF g2;refine Ac<|Aa<|Es<|qm rfl<|Lq (o2 RA U U) rfl<|qm rfl<|Lh U U (om U)<|Lh U U (AD U U U U Wl U)<|Lh U U (o2 Ck U U)<|Lq (oF U U U) rfl<|Ld ?_;refine Ec U (fun g3=>?_) (fun g3=>?_);have h3:=dT g3;refine Es ?_;refine Lo (Ad U U (by kernel_rfl) U (Cb.Cs (Kk))) rfl<|qa rfl<|Ld ?_;refine Ab (Er U ?_);exact Ag U;have h3:=dF g3;exact absurd h3 (by omega)
    exact absurd U h2
def cY:List Int:=[1,10,100,1000,10000,100000,1000000,10000000,100000000,1000000000,10000000000,100000000000,1000000000000,10000000000000,100000000000000,1000000000000000,10000000000000000,100000000000000000,1000000000000000000,10000000000000000000]
theorem Qu (C:Cx) (k:IntKind):∀zs:List Int,VS C (zs.map (AV.int k)) (zs.map (Value.int k))
 | []=> .nil
 |z::zs=> .cons (.int k z) (Qu C k zs)
theorem uY {w:World} (h:Lib.TabIs Tryz.prog w "internal/strconv.uint64pow10" .u64 cY):sV eB (Cx.memory w):=by
 intro g cs hg;unfold eB at hg;cases hb:Nat.beq g 0 with
 |false=>rw[hb]at hg;cases hg
 |true=>
  rw[hb]at hg;obtain rfl:=Qb hb;obtain rfl:kc=cs:=Option.some.inj hg;unfold Lib.TabIs World.var? at h;rw[show Tryz.prog.globalNamed "internal/strconv.uint64pow10" =some 0 by kernel_rfl]at h;refine⟨cY.map (Value.int .u64),?_,Qu _ .u64 cY,fun v hv=>?_⟩
  ·show(match w.heap[0]? with
    |some (.cells c _ _)=>some c.toList
    |_=>none)=_
   cases hw:w.heap[0]? with
   |none=>rw[Qe,hw]at h;cases h
   |some o=>
    rw[Qe,hw]at h;cases o with
    |cells c t f=>
     have h:some c=some _:=h;rw[Option.some.inj h]
    |_=>cases h
  ·rw[show kc=cY.map (AV.int .u64)from rfl]at hv;obtain⟨z,_,rfl⟩:=List.mem_map.1 hv;rfl
theorem pall (h:VG Tryz.prog 10 [] (.bool true)):C9 Tryz.prog eB KP8:=by
 have a6:=gall6 h;have p1:C9 Tryz.prog eB KP1:=Bo a6 fun p:Z7=>NR AC Bm a6 (by
  by_cases hc:CV p.1=true
  ·rw[if_pos hc];exact ur p.1 p.2 hc
  ·rw[if_neg hc];exact uJ p.1 p.2 (by simpa using hc)) rfl (by split<;>rfl)
 have p2:C9 Tryz.prog eB KP2:=BG AC Bm p1 (fun n:NumI=>JQ n.1 n.2) (fun _=>rfl) (fun _=>rfl);have p3:C9 Tryz.prog eB KP3:=BG AC Bm p2 (fun l:uK=>RS l.1 l.2.1 l.2.2) (fun _=>rfl) (fun _=>rfl);have p4:C9 Tryz.prog eB KP4:=Bo p3 fun _=>mS.g;have p5:C9 Tryz.prog eB KP5:=BG AC Bm p4 (fun x:uM=>yw x.1 x.2.1 x.2.2.1 x.2.2.2.1 x.2.2.2.2) (fun _=>rfl) (fun _=>rfl);have p6:C9 Tryz.prog eB KP6:=BG AC Bm p5 (fun p:PriT=>yx p.1 p.2.1 p.2.2) (fun _=>rfl) (fun _=>rfl);have p7:C9 Tryz.prog eB KP7:=BG AC Bm p6 (fun p:Z7=>Tx p.1 p.2) (fun _=>rfl) (fun p=>by split<;>rfl);have s1:C9 Tryz.prog eB KS1:=BG AC Bm p7 (fun p:uP=>uO p.1 p.2) (fun _=>rfl) (fun _=>rfl);have s2:C9 Tryz.prog eB KS2:=BG AC Bm s1 (fun p:uR=>Ti p.1 p.2) (fun _=>rfl) (fun _=>rfl)
 have s3:C9 Tryz.prog eB KS3:=BG AC Bm s2 (fun p:uT=>yy p.1.1 p.1.2 p.2.1 p.2.2) (fun _=>rfl) (fun _=>rfl);have s4:C9 Tryz.prog eB KS4:=BG AC Bm s3 (fun p:lD=>yz p.1 p.2.alts p.2.to p.2.args) (fun _=>rfl) (fun _=>rfl);have s5:C9 Tryz.prog eB KS5:=BG AC Bm s4 (fun p:Z7=>uV p.1 p.2) (fun _=>rfl) (fun _=>rfl);have s6:C9 Tryz.prog eB KS6:=Bo s5 fun p=>(s5 22 [.agg (CG p.1),.agg (CG p.1)] _ (uW p.2)).weak (.cons (.refl _) (.cons (Rd.wk_r _) .nil));exact Bo s6 fun p:uX=>Rd.RT h p.2.2.2 (LY p.2.2.1) p.2.1 p.2.2.1
theorem N4 (h:VG Tryz.prog 10 [] (.bool true)) (w:World) (c:Cm) {x:Value} (hg:Lib.TabIs Tryz.prog w "internal/strconv.uint64pow10" .u64 cY) (hx:VR (Cx.memory w) (.agg (CG c)) x):
 Calls Tryz.prog 5 #[x] w fun e w'=>e= .returned (.bool true)∧Go.RowKit.Below w.heap.size w w':=
 Vq AC (pall h) (args:=[.agg (CG c)]) (by rfl) (TC c) (uY hg) (.cons hx .nil)
theorem SZ {P:Program} {W:World} {x y:String×DataW Unit} {name:String} {k:IntKind} {zs:List Int} {rest:List (String×DataW Unit)} {g:Nat} {t e:TypeId} {n:Nat}
 (hg:P.globalNamed name=some g) (hty:(P.globals[g]?).map (·.type)=some t) (ht:P.underlying t=some (.array n e)) (he:P.underlying e=some (.int k)) (hce:P.cellsOf e=1) (hct:P.cellsOf t=n)
 (h:laidMet P (x::y::(name,Lib.tabData k zs)::rest) W):Lib.TabIs P W name k zs:=by
 obtain⟨ps,⟨_,_,_,_,_,_,_,_,_,_,⟨_,_,_,_,_,_,_,_,_,_,⟨g',t',cs,fuel,p,q,hU,ht',hvar,hd,_,_⟩,_⟩,_⟩,_⟩:=h;obtain rfl:=Option.some.inj (hg.symm.trans hU);obtain rfl:=Option.some.inj (hty.symm.trans ht');unfold Lib.TabIs;rw[hvar,←Lib.cells_of_tab ht he hce hct hd]
theorem uZ {w:World} {x y:String×DataW Unit} {rest:List (String×DataW Unit)} (h:laidMet Tryz.prog (x::y::("internal/strconv.uint64pow10",Lib.tabData .u64 cY)::rest) w):Lib.TabIs Tryz.prog w "internal/strconv.uint64pow10" .u64 cY:=
 SZ (g:=0) (t:=305) (e:=253) (n:=20) (by kernel_rfl) (by kernel_rfl) (by kernel_rfl) (by kernel_rfl) (by kernel_rfl) (by kernel_rfl) h
end Go.Proofs.YtpihdbhocgcbpaaGreatDoor.Gl
