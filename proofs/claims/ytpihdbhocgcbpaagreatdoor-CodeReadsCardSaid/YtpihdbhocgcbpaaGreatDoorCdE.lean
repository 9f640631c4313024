/- Code: reading, as the document has it. -/
import Derived.Test.YtpihdbhocgcbpaaGreatDoorCdD
set_option linter.unusedSectionVars false
set_option linter.unusedVariables false
set_option linter.unusedSimpArgs false
open Go Am
namespace Go.Proofs.YtpihdbhocgcbpaaGreatDoor.Rd
abbrev TxtT:= {t:List UInt8//t.length≤3000∨40000<t.length}
noncomputable def R10:=addC R9 21 (fun t:TxtT=>[.str t.1]) (fun t=>readV encR t.1)
theorem hit_21 {t:List UInt8} (ht:t.length≤3000∨40000<t.length):R10 21 [.str t]=some (readV encR t):=
 A2 (f:=21) (enc:=fun t:TxtT=>[.str t.1]) (res:=fun t=>readV encR t.1) (by rintro⟨a,_⟩ ⟨b,_⟩ h;cases h;rfl) ⟨t,ht⟩
def Strs (s:St) (v:AV) (l:List (List UInt8)):Prop:=
 ∃b cap part,v= .slice b 0 l.length 1 cap∧b<s.next∧s.heap.get b=some (.cells (l.map .str) 9 part)∧l≠ []∧((cap=none∧part=true)∨(cap=some l.length∧part=false))
theorem strs_append {s:St} {v:AV} {l:List (List UInt8)} {w:List UInt8} {by_:Nat} (h:Strs s v l) (hs1:small 1 by_=true) (hsm:small (l.length+1) by_=true) (hb:s.bound=0) (hlg:s.log=[]):
 ∃v' s',appendTo s 9 1 by_ [.str w] 1 v=some (v',s')∧Strs s' v' (l++[w])∧s'.bound=0∧s'.log=[]:=by
 obtain⟨b,cap,part,rfl,hlt,hg,hne,hc⟩:=h
 have hml:(l++[w]).map AV.str=l.map AV.str++[.str w]:=by rw[List.map_append];rfl
 rcases hc with⟨rfl,rfl⟩|⟨rfl,rfl⟩
 ·have hG:Grown s 9 1 (.slice b 0 l.length 1 none) (l.map .str) l.length:= .inr ⟨b,rfl,hlt,hg,by rw[List.length_map,Nat.mul_one],by intro e;exact hne (List.eq_nil_of_length_eq_zero e)⟩
  obtain⟨v',s',h1,h2,h3,h4,h5,h6,h7⟩:=hG.append (new:=[.str w]) rfl (by decide) hs1 hsm
  refine⟨v',s',h1,?_,h5.trans hb,?_⟩
  ·rcases h2 with⟨_,h,_⟩|⟨b2,rfl,hb2,hg2,hl2,_⟩
   ·omega
   ·exact⟨b2,none,true,by rw[Qm];rfl,hb2,by rw[hml];exact hg2,by simp,.inl ⟨rfl,rfl⟩⟩
  ·cases h:s'.log with
   |nil=>rfl
   |cons c r=>
    rcases h6 c (by rw[h];exact Qh ..)with h8|⟨h8,_⟩
    ·rw[hlg]at h8;cases h8
    ·omega
 ·have hlen:l.length≠0:=fun e=>hne (List.eq_nil_of_length_eq_zero e)
  obtain⟨m,hm⟩:∃m,l.length=m+1:=⟨l.length-1,by omega⟩
  refine⟨.slice s.next 0 (l.length+1) 1 none,s.alloc (.cells (l.map .str++[.str w]) 9 true),?_,⟨s.next,none,true,by rw[Qm];rfl,Nat.lt_succ_self _,by rw[hml];exact Dg,by simp,.inl ⟨rfl,rfl⟩⟩,hb,hlg⟩
  have hfit:fitsA 1 l.length 1 (some l.length) (l.map AV.str)=false:=by
   show Nat.ble (l.length+1) l.length=false
   cases h:Nat.ble (l.length+1) l.length with
   |false=>rfl
   |true=>have:=Qc h;omega
  have htk:takeN (l.length*1) (l.map AV.str)=some (l.map AV.str):=by
   have:=takeN_all (l.map AV.str)
   rwa[List.length_map,←Nat.mul_one l.length]at this
  unfold appendTo
  simp only[show Nat.beq 1 0=false from rfl,cond_false,Nat.beq_refl,hsm,Bool.and_self,cond_true,hg,appendOb,appendIn]
  rw[show dropN 0 (l.map AV.str)=some (l.map AV.str)from rfl]
  simp only[Qe,hfit,cond_false,Bool.true_or,cond_true,htk]
  rw[hm];rfl
theorem Strs.keep {s s':St} {v:AV} {l:List (List UInt8)} (h:Strs s v l) (hn:s.next≤s'.next) (hh:∀c,c<s.next→s'.heap.get c=s.heap.get c):Strs s' v l:=by
 obtain⟨b,cap,part,e,hlt,hg,h2⟩:=h
 exact⟨b,cap,part,e,Nat.lt_of_lt_of_le hlt hn,(hh b hlt).trans hg,h2⟩
theorem pcs_snoc {c b:UInt8}:∀w:List UInt8,pcs c (w++[b])=if b=c then pcs c w++[[]]else(pcs c w).set ((pcs c w).length-1) ((pcs c w).getD ((pcs c w).length-1) []++[b])
 | []=>by
  show pcs c [b]=_
  unfold pcs
  split<;>rfl
 |a::w=>by
  have ih:=pcs_snoc (c:=c) (b:=b) w
  have hne:=pcs_ne c w
  have e1:pcs c (a::(w++[b]))=if a=c then []::pcs c (w++[b])else match pcs c (w++[b])with
   |p::ps=>(a::p)::ps
   | []=>[[a]]:=rfl
  have e2:pcs c (a::w)=if a=c then []::pcs c w else match pcs c w with
   |p::ps=>(a::p)::ps
   | []=>[[a]]:=rfl
  rw[List.cons_append,e1,e2,ih]
  cases hp:pcs c w with
  |nil=>exact absurd hp hne
  |cons p ps=>
   by_cases hb:b=c<;>by_cases ha:a=c
   ·rw[if_pos hb,if_pos ha,if_pos hb,if_pos ha];rfl
   ·rw[if_pos hb,if_neg ha,if_pos hb,if_neg ha];rfl
   ·rw[if_neg hb,if_pos ha,if_neg hb,if_pos ha];rfl
   ·rw[if_neg hb,if_neg ha,if_neg hb,if_neg ha]
    cases ps<;>rfl
theorem rsplit_to (w:List UInt8) (c:UInt8) (hw:w.length≤50000):CallTo (EK R10) 99 [.str w,.int .u8 (c.toNat:Nat)] S0 (strsV (pcs c w)):=by
 refine Ax (fn:=Tryz.f99) U U (by kernel_rfl) U U U rfl<|Es<|qa rfl<|Ld<|Es<|Lo (DW 1 U AI Bt z_9 U U U U) rfl<|qa rfl<|Ld ?_
 refine Ab<|Es<|qa rfl<|Ld<|Af ?_
 refine A5 (fun x:Nat×AV×St=>([(6,.int .i64 (x.1:Nat)),(5,x.2.1),(1,.int .u8 (c.toNat:Nat)),(0,.str w)],x.2.2)) (fun x=>w.length-x.1)
  (fun x=>x.1≤w.length∧Strs x.2.2 x.2.1 (pcs c (w.take x.1))∧x.2.2.bound=0∧x.2.2.log=[]) (0,_,_) ⟨Qn _,⟨0,some 1,false,rfl,Nat.zero_lt_one,rfl,by simp[pcs],.inr ⟨rfl,rfl⟩⟩,rfl,rfl⟩ rfl (by(refine Am.Av ?_;repeat (first|exact trivial|refine⟨rfl,?_⟩))) ?_
 rintro⟨i,v,st⟩ ⟨hi,hS,hb,hlg⟩
 dsimp only at hi hS hb hlg⊢
 have hpl:=Eo c (w.take i)
 have hcl:=cnt_le c.toNat (w.take i)
 rw[List.length_take]at hcl
 by_cases h:i<w.length
 ·have et:w.take (i+1)=w.take i++[w.getD i 0]:=by
   rw[List.take_succ_eq_append_getElem h,List.getD_eq_getElem?_getD,Qi h];rfl
  by_cases hc:w.getD i 0=c
  ·focus
    refine Ab<|Es ?_
    iterate 2 refine qm U ?_
    refine Lq (Aw U U U U u_9 U) rfl<|Lq (o2 u_3 U U) rfl<|Ld ?_
    refine Ec U (fun g1=>?_) (fun g1=>?_)
    have h1:=dT g1
    refine Ae<|Ab<|Af<|Es ?_
    iterate 2 refine qm U ?_
    refine Lq (A7 U u_9 U U (by first|assumption|omega|(simp only[LL];omega))) U ?_
    refine qm rfl<|Lq (o2 u_5 U U) rfl<|Ld ?_
    refine Ec U (fun g2=>?_) (fun g2=>?_)
    have h2:=dT g2
    refine Ao<|qm rfl<|Lo (BA U AI Bt z_9 U U U) U ?_
    rotate_left
    have h2:=dF g2
    refine Es<|qm U ?_
    rotate_left
    have h1:=dF g1
    exact absurd h1 (by omega)
   rotate_left
   ·exact absurd (by rw[hc]) (by assumption:¬((w.getD i 0).toNat:Int)=c.toNat)
   obtain⟨v2,s2,h1,hS2,hb2,hl2⟩:=strs_append (s:=st.alloc (.cells [.str []] 9 false)) (w:=[]) (by_:=15+1) (hS.keep (Nat.le_succ _) fun c hc=>Bw hc) (AR (by omega) (by decide)) (AR (by omega) (by decide)) hb hlg
   refine Lo (OpL.append U U U U AI Bt by_9 z_9 (by kernel_rfl) (by kernel_rfl) U U (appended_new (e:=9) (part:=false) (new:=[.str []]) Dg U) h1) rfl<|qa rfl<|Ld<|Ao<|qm U ?_
   refine Lq (A0 (b:=1) U u_3 U U (by first|assumption|omega|(simp only[LL];omega))) U ?_
   refine qa rfl<|Ld ?_
   exact⟨(i+1,v2,s2),⟨h,by show Strs s2 v2 (pcs c (w.take (i+1)));rw[et,pcs_snoc,if_pos hc];exact hS2,hb2,hl2⟩,by show w.length-(i+1)<w.length-i;omega,rfl,rfl,by(refine Am.Av ?_;repeat (first|exact trivial|refine⟨rfl,?_⟩))⟩
  ·have esn:=pcs_snoc (c:=c) (b:=w.getD i 0) (w.take i)
   rw[if_neg hc,←et]at esn
   have hmem:∀v∈pcs c (w.take i),v.length≤50000:=fun v hv=>pcs_mem (Nat.le_trans (List.length_take_le _ _) (by omega)) v hv
   generalize pcs c (w.take i)=l at*
   obtain⟨b,cap,part,rfl,hlt,hg,hne,hcp⟩:=hS
   have hl0:l.length≠0:=fun e=>hne (List.eq_nil_of_length_eq_zero e)
   have hidx:0+(l.length-1)*(0+1)=l.length-1:=by omega
   have hv:(l.map AV.str)[0+(l.length-1)*(0+1)]?=some (.str (l.getD (l.length-1) [])):=by
    rw[hidx,List.getElem?_map,List.getD_eq_getElem?_getD,Qi (by omega)];rfl
   have hlast:(l.getD (l.length-1) []).length≤50000:=by
    rw[List.getD_eq_getElem?_getD,Qi (show l.length-1<l.length by omega)]
    exact hmem _ (Ql _)
   have hsl:(List.take (i+1-i) (List.drop i w)).length≤50000:=by rw[List.length_take];omega
   have hone:List.take (i+1-i) (List.drop i w)=[w.getD i 0]:=by
    rw[show i+1-i=1 by omega,List.drop_eq_getElem_cons h,List.getD_eq_getElem?_getD,Qi h];rfl
   have hov:over [AV.str (l.getD (l.length-1) []++List.take (i+1-i) (List.drop i w))] (0+(l.length-1)*(0+1)) (l.map AV.str)=some ((l.set (l.length-1) (l.getD (l.length-1) []++[w.getD i 0])).map AV.str):=by
    rw[hidx,hone,over_one (by rw[List.length_map];omega),List.map_set]
   focus
    refine Ab<|Es ?_
    iterate 2 refine qm U ?_
    refine Lq (Aw U U U U u_9 U) rfl<|Lq (o2 u_3 U U) rfl<|Ld ?_
    refine Ec U (fun g1=>?_) (fun g1=>?_)
    have h1:=dT g1
    refine Ae<|Ab<|Af<|Es ?_
    iterate 2 refine qm U ?_
    refine Lq (A7 U u_9 U U (by first|assumption|omega|(simp only[LL];omega))) U ?_
    refine qm rfl<|Lq (o2 u_5 U U) rfl<|Ld ?_
    refine Ec U (fun g2=>?_) (fun g2=>?_)
    have h2:=dT g2
    refine Ao<|qm rfl<|Lo (BA U AI Bt z_9 U U U) U ?_
    rotate_left
    have h2:=dF g2
    refine Es<|qm rfl<|Lq (OpQ.lenSlM U U U U AI U) rfl<|Lq (DV (b:=1) U u_3 U U (by omega)) rfl<|qa rfl<|Ld<|Dw (by kernel_rfl) ?_
    iterate 4 refine Nq (om U) U ?_
    refine Nq (Eg U AI Bt U U (by first|assumption|omega|(simp only[LL];omega))) U ?_
    rotate_left
    have h1:=dF g1
    exact absurd h1 (by omega)
   ·exact absurd (UInt8.toNat_inj.1 (by omega)) hc
   refine Bz U U (An Fg Bt hg hv) U (.inl U) U U ?_
   iterate 3 refine Nq (om U) U ?_
   refine Nq (A0 (b:=1) U u_3 U U (by first|assumption|omega|(simp only[LL];omega))) U ?_
   refine Nq (BO U u_9 U U U (AL (by omega)) (AL (by omega)) ⟨by omega,by omega⟩) U ?_
   refine Nq (OpQ.strAdd U u_9 U U (by first|assumption|omega|(simp only[LL];omega))) U ?_
   refine Nq (Eg U AI Bt U U (by first|assumption|omega|(simp only[LL];omega))) U ?_
   refine By hlt U (by kernel_rfl) U U hg U U hov U (by kernel_rfl) (.inl U) U rfl<|AG<|Ao<|qm U ?_
   refine Lq (A0 (b:=1) U u_3 U U (by first|assumption|omega|(simp only[LL];omega))) U ?_
   refine qa rfl<|Ld ?_
   refine⟨(i+1,.slice b 0 l.length 1 cap,putB st b (some (.cells ((l.set (l.length-1) (l.getD (l.length-1) []++[w.getD i 0])).map .str) 9 part))),⟨h,⟨b,cap,part,?_,hlt,?_,?_,?_⟩,hb,?_⟩,by show w.length-(i+1)<w.length-i;omega,rfl,rfl,by(refine Am.Av ?_;repeat (first|exact trivial|refine⟨rfl,?_⟩))⟩
   ·show AV.slice b 0 l.length 1 cap= .slice b 0 (pcs c (w.take (i+1))).length 1 cap
    rw[esn,List.length_set]
   ·show(putB st b _).heap.get b=some (.cells ((pcs c (w.take (i+1))).map .str) _ part)
    rw[get_putB,if_pos rfl,esn]
   ·exact pcs_ne _ _
   ·show(cap=none∧part=true)∨(cap=some (pcs c (w.take (i+1))).length∧part=false)
    rw[esn,List.length_set];exact hcp
   ·show(bif Nat.blt b st.bound then _ else st.log)=[]
    rw[hb,hlg];rfl
 ·obtain rfl:i=w.length:=by omega
  rw[List.take_length]at hS
  focus
   refine Ab<|Es ?_
   iterate 2 refine qm U ?_
   refine Lq (Aw U U U U u_9 U) rfl<|Lq (o2 u_3 U U) rfl<|Ld ?_
   refine Ec U (fun g1=>?_) (fun g1=>?_)
   have h1:=dT g1
   exact absurd h1 (by omega)
   have h1:=dF g1
   refine A9<|Bq rfl<|Es<|qm rfl<|qa rfl<|Ld ?_
   rotate_left
  obtain⟨b,cap,part,rfl,hlt,hg,hne,hcp⟩:=hS
  exact Aa ⟨.inl U,rfl,hlg,hb,[.slice b 0 (pcs c w).length 1 cap],strsV (pcs c w),[b],Aj U U,(frz_slice (j:=39) (m:=0) (Qn _) hg (by rw[List.length_map,Nat.mul_one]) (frz_strs _ _)).trans (by rw[str_closed];rfl),rfl,rfl⟩
end Go.Proofs.YtpihdbhocgcbpaaGreatDoor.Rd
open Go Am
namespace Am
theorem CallTo.toX {E:Env} {f:FuncId} {args:List AV} {s:St} {v:AV} {R RP:AV→St→Prop} (h:CallTo E f args s v) (hR:R v s):RunsX E f args s R RP:=
 let⟨N,h⟩:=h
 ⟨N,.same v,h,hR⟩
end Am
namespace Go.Proofs.YtpihdbhocgcbpaaGreatDoor.Rd
noncomputable def R11:=addC R10 99 (fun p:SplitT=>[.str p.1.1,.int .u8 (p.2.toNat:Nat)]) (fun p=>strsV (pcs p.2 p.1.1))
theorem hit_99 {w:List UInt8} {c:UInt8} (hw:w.length≤50000):R11 99 [.str w,.int .u8 (c.toNat:Nat)]=some (strsV (pcs c w)):=
 A2 (f:=99) (enc:=fun p:SplitT=>[.str p.1.1,.int .u8 (p.2.toNat:Nat)]) (res:=fun p=>strsV (pcs p.2 p.1.1)) (by
  rintro⟨⟨a,_⟩,b⟩ ⟨⟨c,_⟩,d⟩ h
  simp only[List.cons.injEq,AV.str.injEq,AV.int.injEq,and_true,true_and]at h
  obtain⟨rfl,h⟩:=h
  obtain rfl:b=d:=UInt8.toNat_inj.1 (by omega)
  rfl) (⟨w,hw⟩,c)
theorem digT {b:UInt8} (h1:48≤(b.toNat:Int)) (h2:(b.toNat:Int)≤57):digitB b=true:=by
 unfold digitB
 rw[decide_eq_true h1,decide_eq_true h2];rfl
theorem digF {b:UInt8} (h:¬(48≤(b.toNat:Int)∧(b.toNat:Int)≤57)):digitB b=false:=by
 cases hd:digitB b with
 |false=>rfl
 |true=>
  unfold digitB at hd
  rw[Qf,decide_eq_true_eq,decide_eq_true_eq]at hd
  exact absurd hd h
def intR:List UInt8→Int×Bool
 | []=>(0,false)
 |b::w=>if b=45 then(-(intR w).1,(intR w).2&&decide (0<(intR w).1))else
  if 7<(b::w).length∨(1<(b::w).length∧b=48)then(0,false)else if(b::w).all digitB then((valN (b::w):Int),true)else(0,false)
theorem val_lt:∀ {w:List UInt8},w.all digitB=true→valN w<10^w.length:=by
 intro w h
 have:∀i,i≤w.length→valN (w.take i)<10^i:=by
  intro i
  induction i with
  |zero=>exact fun _=>Nat.zero_lt_one
  |succ i ih=>
   intro hi
   have hlt:i<w.length:=hi
   rw[val_step hlt,Nat.pow_succ]
   have hd:=List.all_eq_true.1 h (w.getD i 0) (by rw[List.getD_eq_getElem?_getD,Qi hlt];exact Ql hlt)
   have:=ih (Nat.le_of_lt hlt)
   unfold digitB at hd
   rw[Qf,decide_eq_true_eq,decide_eq_true_eq]at hd
   omega
 have:=this w.length (Qj _)
 rwa[List.take_length]at this
theorem intR_lt:∀w:List UInt8,-10000000<(intR w).1∧(intR w).1<10000000
 | []=>by decide
 |b::w=>by
  have ih:=intR_lt w
  unfold intR
  split
  ·dsimp only;omega
  ·split
   ·decide
   ·next h=>
    split
    ·next hd=>
     have:=val_lt hd
     have:10^(b::w).length≤10^7:=Nat.pow_le_pow_right (by decide) (by omega)
     dsimp only;omega
    ·decide
def intV (w:List UInt8):AV:= .tuple [.int .i64 (intR w).1,.bool (intR w).2]
theorem integer_to:∀(n:Nat) (w:List UInt8),w.length≤n→n≤50000→CallTo (EK R11) 100 [.str w] S0 (intV w)
 |0,w,hw,_=>by
  obtain rfl:w=[]:=List.eq_nil_of_length_eq_zero (by omega)
  refine Ax (fn:=Tryz.f100) U U (by kernel_rfl) U U U rfl<|Es ?_
  iterate 2 refine qa U ?_
  refine Ld<|Ab<|Es<|qm rfl<|Lq (Aw U U U U u_9 U) rfl<|Lq (o2 u_3 U U) rfl<|qm U ?_
  iterate 3 refine Lk U U ?_
  refine Lq (oF U U U) rfl<|Ld<|Ap U rfl<|Ae<|Ab<|Es<|qm rfl<|Lq (Aw U U U U u_9 U) U ?_
  refine Lq (o2 u_3 U U) rfl<|qm U ?_
  iterate 3 refine Lk U U ?_
  refine Lq (oT U U U) rfl<|qm U ?_
  iterate 4 refine Lk U U ?_
  iterate 3 refine DL U U U U U U ?_
  refine Lk U rfl<|Lq (oT U U U) rfl<|Ld<|Ai U rfl<|Es ?_
  iterate 2 refine qa U ?_
  refine Ld ?_
  refine Aa ⟨.inl U,rfl,rfl,rfl,_,_,_,(Aj U (Aj U U)),rfl,rfl,?_⟩
  rfl
 |n+1,w,hw,hn=>by
  cases w with
  |nil=>exact integer_to n [] (Qn _) (by omega)
  |cons b w=>
  rw[List.length_cons]at hw
  have ih:=integer_to n w (by omega) (by omega)
  have hilt:=intR_lt w
  have htk:List.take ((b::w).length-1) (List.drop 1 (b::w))=w:=by
   rw[List.length_cons,Nat.add_sub_cancel,List.drop_one,List.tail_cons,List.take_length]
  have ih2:CallTo (EK R11) 100 [.str (List.take ((b::w).length-1) (List.drop 1 (b::w)))] (mkS 0 0 [] []) (intV w):=by rw[htk];exact ih
  have hg0:(b::w).getD 0 0=b:=rfl
  have hlen:(b::w).length=w.length+1:=rfl
  refine Ax (fn:=Tryz.f100) U U (by kernel_rfl) U U U U ?_
  by_cases e:b=45
  ·have e45:((b::w).getD 0 0).toNat=45:=by rw[hg0,e];rfl
   focus
    refine Es ?_
    iterate 2 refine qa U ?_
    refine Ld<|Ab<|Es<|qm rfl<|Lq (Aw U U U U u_9 U) rfl<|Lq (o2 u_3 U U) rfl<|qm U ?_
    refine Lb U (fun g1=>?_) (fun g1=>?_)
    have h1:=dT g1
    refine Lh U ‹_› (om U) ?_
    refine Lh U ‹_› (A7 (n:=0) U u_9 U U (by first|assumption|omega|(simp only[LL];omega))) ?_
    refine Lh U ‹_› (o2 u_5 U U)<|Lq (oT U ‹_› U) rfl<|Ld ?_
    refine Ec U (fun g2=>?_) (fun g2=>?_)
    have h2:=dT g2
    refine Es<|qm rfl<|Lq (BO U u_9 U U U U (AL (n:=1) (by omega)) ⟨by omega,by omega⟩) U ?_
    rotate_left
    have h2:=dF g2
    exact absurd h2 (by omega)
    have h1:=dF g1
    exact absurd h1 (by omega)
   all_goals try (exfalso;omega)
   refine Ay U U (by kernel_rfl) U U U U (ih2.toX ?_)
   have eI:intR (b::w)=(-(intR w).1,(intR w).2&&decide (0<(intR w).1)):=by rw[intR,if_pos e]
   focus
    refine qm U ?_
    iterate 2 refine Lq (oe U) U ?_
    iterate 2 refine qa U ?_
    refine Ld<|Es<|qm U ?_
    refine Lq (OpQ.neg U U (by first|assumption|omega|(simp only[LL];omega))) U ?_
    iterate 2 refine qm U ?_
    refine Lb U (fun g3=>?_) (fun g3=>?_)
    refine Lh U ‹_› (om U)<|Lh U ‹_› (o2 u_3 U U)<|Lq (oT U ‹_› U) U ?_
    iterate 2 refine qa U ?_
    refine Ld ?_
    refine Aa ⟨.inl U,rfl,rfl,rfl,_,_,_,(Aj U (Aj U U)),rfl,rfl,?_⟩
    rotate_left
    iterate 2 refine Lk U ‹_› ?_
    refine Lq (oF U ‹_› U) U ?_
    iterate 2 refine qa U ?_
    refine Ld ?_
    refine Aa ⟨.inl U,rfl,rfl,rfl,_,_,_,(Aj U (Aj U U)),rfl,rfl,?_⟩
    rotate_left
   all_goals
    unfold intV
    rw[eI]
    dsimp only
    rw[g3];rfl
  ·have e45:¬((b::w).getD 0 0).toNat=45:=by rw[hg0];exact fun h=>e (UInt8.toNat_inj.1 h)
   have eN:intR (b::w)=if 7<(b::w).length∨(1<(b::w).length∧b=48)then(0,false)else if(b::w).all digitB then((valN (b::w):Int),true)else(0,false):=by rw[intR,if_neg e]
   focus
    refine Es ?_
    iterate 2 refine qa U ?_
    refine Ld<|Ab<|Es<|qm rfl<|Lq (Aw U U U U u_9 U) rfl<|Lq (o2 u_3 U U) rfl<|qm U ?_
    refine Lb U (fun g1=>?_) (fun g1=>?_)
    have h1:=dT g1
    refine Lh U ‹_› (om U) ?_
    refine Lh U ‹_› (A7 (n:=0) U u_9 U U (by first|assumption|omega|(simp only[LL];omega))) ?_
    refine Lh U ‹_› (o2 u_5 U U)<|Lq (oT U ‹_› U) rfl<|Ld ?_
    refine Ec U (fun g2=>?_) (fun g2=>?_)
    have h2:=dT g2
    exact absurd h2 (by omega)
    have h2:=dF g2
    refine Ae<|Ab ?_
    rotate_left
    have h1:=dF g1
    exact absurd h1 (by omega)
   refine Ab (Fz (fun c:Bool=>([(46,.bool c),(0,.str (b::w))],S0)) (fun c=>c=true↔(7<(b::w).length∨(1<(b::w).length∧b=48))) ?_ ?_)
   ·focus
     refine Ao<|qm rfl<|Lq (Aw U U U U u_9 U) rfl<|Lq (o2 u_3 U U) rfl<|qm rfl<|Lh U U (om U)<|Lh U U (Aw U U U U u_9 U)<|Lh U U (o2 u_3 U U) ?_
     refine Lq (oF U U U) rfl<|qm U ?_
     refine Lb U (fun g3=>?_) (fun g3=>?_)
     have h3:=dT g3
     iterate 4 refine Lk U ‹_› ?_
     iterate 3 refine DL U U U U U U ?_
     refine Lk U ‹_›<|Lq (oT U ‹_› U) rfl<|Ld ?_
     rotate_left
     have h3:=dF g3
     refine Lh U ‹_› (om U)<|Lh U ‹_› (Aw U U U U u_9 U)<|Lh U ‹_› (o2 u_3 U U)<|Lh U ‹_› (om U) ?_
     refine Lb U (fun g4=>?_) (fun g4=>?_)
     have h4:=dT g4
     refine Lh U ‹_› (om U) ?_
     refine Lh U ‹_› (A7 (n:=0) U u_9 U U (by first|assumption|omega|(simp only[LL];omega))) ?_
     refine Lh U ‹_› (o2 u_5 U U)<|Lh U ‹_› (oT U ‹_› U)<|Lq (oF U ‹_› U) rfl<|Ld ?_
     rotate_left
     have h4:=dF g4
     iterate 3 refine Lk U ‹_› ?_
     refine Lh U ‹_› (oF U ‹_› U)<|Lq (oF U ‹_› U) rfl<|Ld ?_
     rotate_left
    all_goals try (exfalso;omega)
    ·exact⟨rfl,true,⟨fun _=> .inl (by omega),fun _=>rfl⟩,rfl,by(refine Am.Av ?_;repeat (first|exact trivial|refine⟨rfl,?_⟩))⟩
    ·exact⟨rfl,decide ((((b::w).getD 0 0).toNat:Int)=48),⟨fun h=> .inr ⟨by omega,UInt8.toNat_inj.1 (by rw[←hg0];show _=48;have:=dT h;omega)⟩,fun h=>decide_eq_true (by
      rcases h with h|⟨_,h⟩
      ·omega
      ·rw[hg0,h];rfl)⟩,rfl,by(refine Am.Av ?_;repeat (first|exact trivial|refine⟨rfl,?_⟩))⟩
    ·exact⟨rfl,false,⟨(fun h=>by cases h),fun h=>h.elim (fun h=>absurd h (by omega)) fun h=>absurd h.1 (by omega)⟩,rfl,by(refine Am.Av ?_;repeat (first|exact trivial|refine⟨rfl,?_⟩))⟩
   rintro c hc
   dsimp only
   cases c with
   |true=>
    refine Ai U rfl<|Es ?_
    iterate 2 refine qa U ?_
    refine Ld ?_
    refine Aa ⟨.inl U,rfl,rfl,rfl,_,_,_,(Aj U (Aj U U)),rfl,rfl,?_⟩
    unfold intV;rw[eN,if_pos (hc.1 rfl)]
   |false=>
    refine Ap U rfl<|Ae<|Es<|qa rfl<|Ld<|Ab<|Es<|qa U ?_
    refine Ld<|Af ?_
    have good:¬(7<(b::w).length∨(1<(b::w).length∧b=48)):=fun h=>by cases hc.2 h
    rw[if_neg good]at eN
    have h7:(b::w).length≤7:=by omega
    generalize b::w=u at*
    refine A5 (fun i:Nat=>([(7,.int .i64 (i:Nat)),(6,.int .i64 (valN (u.take i):Nat)),(0,.str u)],mkS 0 0 [] [])) (fun i=>u.length-i)
     (fun i=>i≤u.length∧valN (u.take i)<10^i∧∀j,j<i→digitB (u.getD j 0)=true) 0 ⟨Qn _,Nat.zero_lt_one,fun j hj=>absurd hj (Nat.not_lt_zero _)⟩ rfl (by(refine Am.Av ?_;repeat (first|exact trivial|refine⟨rfl,?_⟩))) ?_
    rintro i ⟨hi,hv,hd⟩
    dsimp only at hi hv hd⊢
    have hv7:valN (u.take i)<10000000:=Nat.lt_of_lt_of_le hv (Nat.pow_le_pow_right (by decide) (show i≤7 by omega))
    by_cases h:i<u.length
    ·have hstep:=val_step h
     have hb:=(u.getD i 0).toNat_lt
     have notP:digitB (u.getD i 0)=false→intV u= .tuple [.int .i64 0,.bool false]:=fun hx=>by
      have:¬u.all digitB=true:=fun ha=>by
       have:=List.all_eq_true.1 ha (u.getD i 0) (by rw[List.getD_eq_getElem?_getD,Qi h];exact Ql h)
       rw[hx]at this;cases this
      unfold intV
      rw[eN,if_neg this]
     focus
      refine Ab<|Es ?_
      iterate 2 refine qm U ?_
      refine Lq (Aw U U U U u_9 U) rfl<|Lq (o2 u_3 U U) rfl<|Ld ?_
      refine Ec U (fun g3=>?_) (fun g3=>?_)
      have h3:=dT g3
      refine Ae<|Ab<|Af<|Ab<|Es ?_
      iterate 2 refine qm U ?_
      refine Lq (A7 U u_9 U U (by first|assumption|omega|(simp only[LL];omega))) U ?_
      refine Lq (o2 u_5 U U) rfl<|qm U ?_
      refine Lb U (fun g4=>?_) (fun g4=>?_)
      have h4:=dT g4
      iterate 4 refine Lk U ‹_› ?_
      refine Lq (oT U ‹_› U) rfl<|Ld<|Ai U rfl<|Es ?_
      iterate 2 refine qa U ?_
      refine Ld ?_
      refine Aa ⟨.inl U,rfl,rfl,rfl,_,_,_,(Aj U (Aj U U)),rfl,rfl,?_⟩
      rotate_left
      have h4:=dF g4
      iterate 2 refine Lh U ‹_› (om U) ?_
      refine Lh U ‹_› (A7 U u_9 U U (by first|assumption|omega|(simp only[LL];omega))) ?_
      refine Lh U ‹_› (o2 u_5 U U)<|Lq (oF U ‹_› U) rfl<|Ld ?_
      refine Ec U (fun g5=>?_) (fun g5=>?_)
      have h5:=dT g5
      refine Es ?_
      iterate 2 refine qa U ?_
      refine Ld ?_
      refine Aa ⟨.inl U,rfl,rfl,rfl,_,_,_,(Aj U (Aj U U)),rfl,rfl,?_⟩
      rotate_left
      have h5:=dF g5
      refine Ae<|Ao<|qm U ?_
      refine Lq (OpQ.mulN (a:=10) U u_3 U U (by first|assumption|omega|(simp only[LL];omega))) U ?_
      iterate 2 refine qm U ?_
      refine Lq (A7 U u_9 U U (by first|assumption|omega|(simp only[LL];omega))) U ?_
      refine Lq (OpQ.subB (b:=48) U u_5 U U (by omega)) rfl<|Lq (OpQ.convI U u_5 u_3 U ⟨by omega,by omega⟩) U ?_
      refine Lq (A0 U u_3 U U (by first|assumption|omega|(simp only[LL];omega))) U ?_
      refine qa rfl<|Ld<|Ao<|qm U ?_
      refine Lq (A0 (b:=1) U u_3 U U (by first|assumption|omega|(simp only[LL];omega))) U ?_
      refine qa rfl<|Ld ?_
      rotate_left
      have h3:=dF g3
      exact absurd h3 (by omega)
     ·exact(notP (digF (by omega))).symm
     ·exact(notP (digF (by omega))).symm
     ·refine⟨i+1,⟨h,?_,fun j hj=>?_⟩,by show u.length-(i+1)<u.length-i;omega,rfl,rfl,Av ⟨rfl,?_,rfl,trivial⟩⟩
      ·rw[hstep,Nat.pow_succ];omega
      ·rcases Nat.lt_or_ge j i with hj|hj
       ·exact hd j hj
       ·obtain rfl:j=i:=by omega
        exact digT (by omega) (by omega)
      ·show some (AV.int .i64 _)=some (.int .i64 ((valN (u.take (i+1)):Nat):Int))
       rw[hstep]
    ·obtain rfl:i=u.length:=by omega
     rw[List.take_length]at*
     have hall:u.all digitB=true:=List.all_eq_true.2 fun x hx=>by
      obtain⟨j,hj,rfl⟩:=List.getElem_of_mem hx
      have:=hd j hj
      rwa[List.getD_eq_getElem?_getD,Qi hj]at this
     focus
      refine Ab<|Es ?_
      iterate 2 refine qm U ?_
      refine Lq (Aw U U U U u_9 U) rfl<|Lq (o2 u_3 U U) rfl<|Ld ?_
      refine Ec U (fun g3=>?_) (fun g3=>?_)
      have h3:=dT g3
      exact absurd h3 (by omega)
      have h3:=dF g3
      refine A9<|Bq rfl<|Es<|qm U ?_
      iterate 2 refine qa U ?_
      refine Ld ?_
      refine Aa ⟨.inl U,rfl,rfl,rfl,_,_,_,(Aj U (Aj U U)),rfl,rfl,?_⟩
      rotate_left
     unfold intV
     rw[eN,if_pos hall]
theorem trim_ne {b:UInt8} {w:List UInt8} (h:¬b=45):trimV (b::w)=b::w:=by
 show(if b=45 then w else b::w)=_
 rw[if_neg h]
theorem val_pos {w:List UInt8}:∀ {n:Nat},0<n→0<w.foldl (fun n b=>10*n+(b.toNat-48)) n:=by
 induction w with
 |nil=>exact fun h=>h
 |cons b w ih=>exact fun {n} h=>ih (n:=10*n+(b.toNat-48)) (by omega)
theorem dig_all {w:List UInt8}:w.all digitB=true↔∀i,i<w.length→digitB (w.getD i 0)=true:=by
 refine⟨fun h i hi=>?_,fun h=>List.all_eq_true.2 fun x hx=>?_⟩
 ·rw[List.getD_eq_getElem?_getD,Qi hi]
  exact List.all_eq_true.1 h _ (Ql hi)
 ·obtain⟨j,hj,rfl⟩:=List.getElem_of_mem hx
  have:=h j hj
  rwa[List.getD_eq_getElem?_getD,Qi hj]at this
theorem intR_pos {b:UInt8} {w:List UInt8} (h:¬b=45):((intR (b::w)).2=true↔NumP (b::w))∧(NumP (b::w)→(intR (b::w)).1=(valN (b::w):Int)):=by
 have eN:intR (b::w)=if 7<(b::w).length∨(1<(b::w).length∧b=48)then(0,false)else if(b::w).all digitB then((valN (b::w):Int),true)else(0,false):=by rw[intR,if_neg h]
 have hl:(b::w).length=w.length+1:=rfl
 unfold NumP
 rw[trim_ne h,eN,←dig_all]
 have hc:(¬(b::w).getD 0 0=48∨(b::w)=[48])↔¬(1<(b::w).length∧b=48):=by
  show(¬b=48∨_)↔_
  refine⟨fun h2 h3=>?_,fun h2=>?_⟩
  ·rcases h2 with h2|h2
   ·exact h2 h3.2
   ·rw[h2]at h3
    exact absurd h3.1 (by decide)
  ·by_cases hb:b=48
   ·refine .inr ?_
    have:w=[]:=List.eq_nil_of_length_eq_zero (by
     rcases Nat.lt_or_ge 1 (b::w).length with h3|h3
     ·exact absurd ⟨h3,hb⟩ h2
     ·omega)
    rw[this,hb]
   ·exact .inl hb
 rw[hc]
 split
 ·next h2=>
  refine⟨⟨(fun h3=>by cases h3),fun⟨_,h3,h4,_⟩=>?_⟩,fun⟨_,h3,h4,_⟩=>?_⟩<;>exact absurd (h2.resolve_left (by omega)) h4
 ·next h2=>
  split
  ·next h3=>exact⟨⟨fun _=>⟨by omega,by omega,fun h4=>h2 (.inr h4),h3⟩,fun _=>rfl⟩,fun _=>rfl⟩
  ·next h3=>exact⟨⟨(fun h4=>by cases h4),fun h4=>absurd h4.2.2.2 h3⟩,fun h4=>absurd h4.2.2.2 h3⟩
theorem intR_dash {w:List UInt8}:¬((intR (45::w)).2=true∧0<(intR (45::w)).1):=by
 rw[intR,if_pos rfl]
 rintro⟨h1,h2⟩
 rw[Qf,decide_eq_true_eq]at h1
 dsimp only at h2
 omega
theorem numV_ne {b:UInt8} {w:List UInt8} (h:¬b=45):numV (b::w)=(valN (b::w):Int):=by
 unfold numV
 rw[trim_ne h,if_pos rfl]
theorem De:∀w:List UInt8,((intR w).2=true↔NumP w)∧(NumP w→(intR w).1=numV w)
 | []=>⟨⟨(fun h=>by cases h),fun h=>absurd h.1 (by decide)⟩,fun h=>absurd h.1 (by decide)⟩
 |b::w=>by
  by_cases h:b=45
  ·subst h
   have e1:trimV (45::w)=w:=rfl
   have key:((intR w).2=true∧0<(intR w).1)↔NumP (45::w):=by
    cases w with
    |nil=>exact⟨(fun h=>by cases h.1),fun h=>absurd h.1 (by decide)⟩
    |cons c u=>
     by_cases hc:c=45
     ·subst hc
      refine⟨fun h=>absurd h intR_dash,fun h=>?_⟩
      have h45:digitB 45=true:=h.2.2.2 0 (by show 0<u.length+1;omega)
      exact absurd h45 (by decide)
     ·obtain⟨h1,h2⟩:=intR_pos (w:=u) hc
      have hv:NumP (c::u)→((0:Int)<(valN (c::u):Int)↔¬c=48):=fun hp=>by
       have hd:=hp.2.2.2
       rw[trim_ne hc]at hd
       have h0:=hd 0 (Nat.succ_pos _)
       have h0:digitB c=true:=h0
       unfold digitB at h0
       rw[Qf,decide_eq_true_eq,decide_eq_true_eq]at h0
       refine⟨fun hpos e=>?_,fun hne=>?_⟩
       ·have:=hp.2.2.1
        rw[trim_ne hc]at this
        rcases this with h3|h3
        ·exact h3 e
        ·rw[h3]at hpos
         exact absurd hpos (by decide)
       ·have:¬c.toNat=48:=fun e=>hne (UInt8.toNat_inj.1 e)
        have:=val_pos (w:=u) (n:=10*0+(c.toNat-48)) (by omega)
        have:0<valN (c::u):=this
        omega
      refine⟨fun⟨h3,h4⟩=>?_,fun hp=>?_⟩
      ·have hp:=h1.1 h3
       rw[h2 hp]at h4
       have hne:=(hv hp).1 h4
       have hp2:=hp
       unfold NumP at hp2⊢
       rw[trim_ne hc]at hp2
       exact⟨hp2.1,hp2.2.1,.inl hne,hp2.2.2.2⟩
      ·have hp2:NumP (c::u):=by
        unfold NumP at hp⊢
        rw[trim_ne hc]
        exact⟨hp.1,hp.2.1,(hp.2.2.1.elim .inl fun h=>by cases h),hp.2.2.2⟩
       refine⟨h1.2 hp2,?_⟩
       rw[h2 hp2]
       refine(hv hp2).2 ?_
       exact hp.2.2.1.elim id fun h=>by cases h
   have e2:intR (45::w)=(-(intR w).1,(intR w).2&&decide (0<(intR w).1)):=by rw[intR,if_pos rfl]
   rw[e2]
   refine⟨?_,fun hp=>?_⟩
   ·rw[←key]
    show((intR w).2&&decide (0<(intR w).1))=true↔_
    rw[Qf,decide_eq_true_eq]
   ·obtain⟨h1,h2⟩:=key.2 hp
    show-(intR w).1=numV (45::w)
    unfold numV
    rw[e1,if_neg (fun e=>by have:=congrArg List.length e;rw[List.length_cons]at this;omega)]
    cases w with
    |nil=>exact absurd hp.1 (by decide)
    |cons c u=>
     by_cases hc:c=45
     ·subst hc;exact absurd ⟨h1,h2⟩ intR_dash
     ·obtain⟨h3,h4⟩:=intR_pos (w:=u) hc
      rw[h4 (h3.1 h1)]
  ·obtain⟨h1,h2⟩:=intR_pos (w:=w) h
   exact⟨h1,fun hp=>by rw[h2 hp,numV_ne h]⟩
noncomputable def R12:=addC R11 100 (fun w:Str5=>[.str w.1]) (fun w=>intV w.1)
theorem hit_100 {w:List UInt8} (hw:w.length≤50000):R12 100 [.str w]=some (intV w):=
 A2 (f:=100) (enc:=fun w:Str5=>[.str w.1]) (res:=fun w=>intV w.1) (by rintro⟨a,_⟩ ⟨b,_⟩ h;cases h;rfl) ⟨w,hw⟩
def nameB (w:List UInt8):Bool:=w.all letterB&&decide (0<(w.length:Int))
theorem nameB_ok {w:List UInt8}:nameB w=true↔NameP w:=by
 unfold nameB NameP
 rw[Qf,decide_eq_true_eq]
 refine⟨fun⟨h1,h2⟩=>⟨fun e=>by rw[e]at h2;exact absurd h2 (by decide),fun i hi=>?_⟩,fun⟨h1,h2⟩=>⟨List.all_eq_true.2 fun x hx=>?_,?_⟩⟩
 ·rw[List.getD_eq_getElem?_getD,Qi hi]
  exact List.all_eq_true.1 h1 _ (Ql hi)
 ·obtain⟨j,hj,rfl⟩:=List.getElem_of_mem hx
  have:=h2 j hj
  rwa[List.getD_eq_getElem?_getD,Qi hj]at this
 ·cases w with
  |nil=>exact absurd rfl h1
  |cons a w=>rw[List.length_cons];omega
theorem let_iff {b:UInt8}:letterB b=true↔(97≤(b.toNat:Int)∧(b.toNat:Int)≤122)∨(65≤(b.toNat:Int)∧(b.toNat:Int)≤90):=by
 unfold letterB
 rw[Bool.or_eq_true,Qf,Qf,decide_eq_true_eq,decide_eq_true_eq,decide_eq_true_eq,decide_eq_true_eq]
theorem let_no {b:UInt8} (h:¬((97≤(b.toNat:Int)∧(b.toNat:Int)≤122)∨(65≤(b.toNat:Int)∧(b.toNat:Int)≤90))):letterB b=false:=by
 cases hb:letterB b with
 |false=>rfl
 |true=>exact absurd (let_iff.1 hb) h
theorem letters_to (w:List UInt8) (hw:w.length≤50000):CallTo (EK R12) 101 [.str w] S0 (.bool (nameB w)):=by
 refine Ax (fn:=Tryz.f101) U U (by kernel_rfl) U U U rfl<|Es<|qa rfl<|Ld<|Ab<|Es<|qa rfl<|Ld ?_
 refine Af ?_
 refine A5 (fun i:Nat=>([(3,.int .i64 (i:Nat)),(0,.str w)],mkS 0 0 [] [])) (fun i=>w.length-i) (fun i=>i≤w.length∧∀j,j<i→letterB (w.getD j 0)=true) 0 ⟨Qn _,fun j hj=>absurd hj (Nat.not_lt_zero _)⟩ U (by(refine Am.Av ?_;repeat (first|exact trivial|refine⟨rfl,?_⟩))) ?_
 rintro i ⟨hi,hd⟩
 dsimp only at hi hd⊢
 by_cases h:i<w.length
 ·have yes:letterB (w.getD i 0)=true→i+1≤w.length∧∀j,j<i+1→letterB (w.getD j 0)=true:=fun hx=>⟨h,fun j hj=>by
   rcases Nat.lt_or_ge j i with hj|hj
   ·exact hd j hj
   ·obtain rfl:j=i:=by omega
    exact hx⟩
  have no:letterB (w.getD i 0)=false→false=nameB w:=fun hx=>by
   cases hn:nameB w with
   |false=>rfl
   |true=>
    have:=(nameB_ok.1 hn).2 i h
    rw[hx]at this;cases this
  focus
   refine Ab<|Es ?_
   iterate 2 refine qm U ?_
   refine Lq (Aw U U U U u_9 U) rfl<|Lq (o2 u_3 U U) rfl<|Ld ?_
   refine Ec U (fun g1=>?_) (fun g1=>?_)
   have h1:=dT g1
   refine Ae<|Ab<|Af<|Es ?_
   iterate 2 refine qm U ?_
   refine Lq (A7 U u_9 U U (by first|assumption|omega|(simp only[LL];omega))) U ?_
   refine Lq (o2 u_5 U U) rfl<|qm U ?_
   refine Lb U (fun g2=>?_) (fun g2=>?_)
   have h2:=dT g2
   iterate 4 refine Lk U ‹_› ?_
   refine Lq (oT U ‹_› U) rfl<|qm U ?_
   iterate 2 refine Lh U U (om U) ?_
   refine Lh U U (A7 U u_9 U U (by first|assumption|omega|(simp only[LL];omega))) ?_
   refine Lh U U (o2 u_5 U U)<|Lh U U (om U) ?_
   refine Lb U (fun g3=>?_) (fun g3=>?_)
   have h3:=dT g3
   iterate 4 refine Lk U ‹_› ?_
   refine Lh U U (oT U ‹_› U)<|Lq (oT U U U) rfl<|Ld<|Ai U rfl<|Es<|qa rfl<|Ld ?_
   refine Aa (Er U ?_)
   refine Ah ?_
   rotate_left
   have h3:=dF g3
   iterate 2 refine Lh U ‹_› (om U) ?_
   refine Lh U ‹_› (A7 U u_9 U U (by first|assumption|omega|(simp only[LL];omega))) ?_
   refine Lh U ‹_› (o2 u_5 U U)<|Lh U U (oF U ‹_› U)<|Lq (oT U U U) rfl<|Ld ?_
   refine Ec U (fun g4=>?_) (fun g4=>?_)
   have h4:=dT g4
   refine Es<|qa rfl<|Ld ?_
   refine Aa (Er U ?_)
   refine Ah ?_
   rotate_left
   have h4:=dF g4
   refine Ae<|Ao<|qm U ?_
   refine Lq (A0 (b:=1) U u_3 U U (by first|assumption|omega|(simp only[LL];omega))) U ?_
   refine qa rfl<|Ld ?_
   rotate_left
   have h2:=dF g2
   iterate 2 refine Lh U ‹_› (om U) ?_
   refine Lh U ‹_› (A7 U u_9 U U (by first|assumption|omega|(simp only[LL];omega))) ?_
   refine Lh U ‹_› (o2 u_5 U U)<|Lq (oF U ‹_› U) rfl<|qm U ?_
   refine Lb U (fun g5=>?_) (fun g5=>?_)
   have h5:=dT g5
   iterate 2 refine Lh U ‹_› (om U) ?_
   refine Lh U ‹_› (A7 U u_9 U U (by first|assumption|omega|(simp only[LL];omega))) ?_
   refine Lh U ‹_› (o2 u_5 U U)<|Lh U ‹_› (om U) ?_
   refine Lb U (fun g6=>?_) (fun g6=>?_)
   have h6:=dT g6
   exact absurd h6 (by omega)
   have h6:=dF g6
   iterate 2 refine Lh U ‹_› (om U) ?_
   refine Lh U ‹_› (A7 U u_9 U U (by first|assumption|omega|(simp only[LL];omega))) ?_
   refine Lh U ‹_› (o2 u_5 U U)<|Lh U ‹_› (oF U ‹_› U)<|Lq (oT U ‹_› U) rfl<|Ld ?_
   refine Ec U (fun g7=>?_) (fun g7=>?_)
   have h7:=dT g7
   refine Es<|qa rfl<|Ld ?_
   refine Aa (Er U ?_)
   refine Ah ?_
   rotate_left
   have h7:=dF g7
   exact absurd h7 (by omega)
   have h5:=dF g5
   iterate 5 refine Lk U ‹_› ?_
   iterate 4 refine DL U U U U U U ?_
   refine Lk U ‹_›<|Lq (oF U ‹_› U) rfl<|Ld<|Ap U rfl<|Ae<|Ao<|qm U ?_
   refine Lq (A0 (b:=1) U u_3 U U (by first|assumption|omega|(simp only[LL];omega))) U ?_
   refine qa rfl<|Ld ?_
   rotate_left
   have h1:=dF g1
   exact absurd h1 (by omega)
  all_goals first
   |exact no (let_no (by omega))
   |exact⟨i+1,yes (let_iff.2 (by omega)),by show w.length-(i+1)<w.length-i;omega,rfl,rfl,by(refine Am.Av ?_;repeat (first|exact trivial|refine⟨rfl,?_⟩))⟩
 ·have hall:w.all letterB=true:=List.all_eq_true.2 fun x hx=>by
   obtain⟨j,hj,rfl⟩:=List.getElem_of_mem hx
   have:=hd j (by omega)
   rwa[List.getD_eq_getElem?_getD,Qi hj]at this
  focus
   refine Ab<|Es ?_
   iterate 2 refine qm U ?_
   refine Lq (Aw U U U U u_9 U) rfl<|Lq (o2 u_3 U U) rfl<|Ld ?_
   refine Ec U (fun g1=>?_) (fun g1=>?_)
   have h1:=dT g1
   exact absurd h1 (by omega)
   have h1:=dF g1
   refine A9<|Bq rfl<|Es<|qm rfl<|Lq (Aw U U U U u_9 U) rfl<|Lq (o2 u_3 U U) rfl<|qa rfl<|Ld ?_
   refine Aa (Er U ?_)
   refine Ah ?_
   rotate_left
  unfold nameB
  rw[hall,Bool.true_and]
noncomputable def R13:=addC R12 101 (fun w:Str5=>[.str w.1]) (fun w=> .bool (nameB w.1))
theorem hit_101 {w:List UInt8} (hw:w.length≤50000):R13 101 [.str w]=some (.bool (nameB w)):=
 A2 (f:=101) (enc:=fun w:Str5=>[.str w.1]) (res:=fun w=> .bool (nameB w.1)) (by rintro⟨a,_⟩ ⟨b,_⟩ h;cases h;rfl) ⟨w,hw⟩
def intsB (l:List (List UInt8)):Bool:=l.all fun w=>(intR w).2
def intsV (l:List (List UInt8)):AV:=if intsB l then .tuple [lst encZ 1 (l.map fun w=>(intR w).1),.bool true]else .tuple [.nilslice,.bool false]
theorem chg_log {s s':St} {o:Nat→Prop} (h:Chg s s' o) (hb:s.bound=0) (hl:s.log=[]):s'.log=[]:=by
 cases hh:s'.log with
 |nil=>rfl
 |cons c r=>
  rcases h.log c (by rw[hh];exact Qh ..)with h2|⟨h2,_⟩
  ·rw[hl]at h2;cases h2
  ·omega
theorem strs_recs (l:List (List UInt8)):strsV l=recs (fun w=>[AV.str w]) 1 l:=by
 unfold strsV recs
 rw[List.map_eq_flatMap]
theorem Eu {l:List (List UInt8)} {i:Nat} (h:i<l.length):idxSliceV (0+1) i (strsV l)=some (.iptr ([.str l[i]]++(l.drop (i+1)).flatMap fun w=>[AV.str w])):=by
 rw[strs_recs]
 exact AC (k:=0) (fun _=>rfl) h
theorem integers_to (l:List (List UInt8)) (hl:l.length≤50001) (hw:∀w∈l,w.length≤50000):CallTo (EK R13) 102 [strsV l] S0 (intsV l):=by
 refine Ax (fn:=Tryz.f102) U U (by kernel_rfl) U U U U ?_
 have hlen:=Dq (ws:=l)
 refine Es ?_
 iterate 2 refine qa U ?_
 refine Ld<|Es<|qa rfl<|Ld<|Ab<|Es<|qa rfl<|Ld ?_
 refine Af ?_
 refine A5 (fun x:Nat×AV×St=>([(5,.int .i64 (x.1:Nat)),(4,x.2.1),(0,strsV l)],x.2.2)) (fun x=>l.length-x.1)
  (fun x=>x.1≤l.length∧Grown x.2.2 3 1 x.2.1 (((l.take x.1).map fun w=>(intR w).1).flatMap encZ) x.1∧x.2.2.bound=0∧x.2.2.log=[]∧intsB (l.take x.1)=true) (0,.nilslice,_) ⟨Qn _,Grown.nil _ _ _,rfl,rfl,rfl⟩ rfl (by(refine Am.Av ?_;repeat (first|exact trivial|refine⟨rfl,?_⟩))) ?_
 rintro⟨i,v,st⟩ ⟨hi,hg,hb,hlg,hB⟩
 dsimp only at hi hg hb hlg hB⊢
 by_cases h:i<l.length
 ·have hwi:=hw l[i] (Ql _)
  have hid:=Eu h
  have et:l.take (i+1)=l.take i++[l[i]]:=List.take_succ_eq_append_getElem h
  have hno:(intR l[i]).2=false→intsB l=false:=fun hr=>by
   cases hn:intsB l with
   |false=>rfl
   |true=>
    have:=List.all_eq_true.1 hn l[i] (Ql _)
    rw[hr]at this;cases this
  focus
   refine Ab<|Es ?_
   iterate 2 refine qm U ?_
   refine Lq (ol AI U) rfl<|Lq (o2 u_3 U U) rfl<|Ld ?_
   refine Ec U (fun g1=>?_) (fun g1=>?_)
   have h1:=dT g1
   refine Ae<|Ab<|Af<|Es ?_
   iterate 2 refine qm U ?_
   refine Lq (Ag U AI Bt U U ‹_›) rfl<|Lq (As U U Fg Bt) U ?_
   refine Lo (Ad U U (by kernel_rfl) U (Ac (hit_100 (by first|assumption|omega|(simp only[LL];omega))))) U ?_
   refine qm U ?_
   iterate 2 refine Lq (oe U) U ?_
   iterate 2 refine qa U ?_
   refine Ld<|Ab<|Es<|qm rfl<|Lq (on U) rfl<|Ld ?_
   refine Ec U (fun g2=>?_) (fun g2=>?_)
   have h2:=Fo g2
   refine Es ?_
   iterate 2 refine qa U ?_
   refine Ld ?_
   refine Aa ⟨.inl U,rfl,‹_›,‹_›,_,_,_,(Aj U (Aj U U)),rfl,rfl,?_⟩
   rotate_left
   have h2:=Fp g2
   refine Ae<|Ao ?_
   iterate 2 refine qm U ?_
   refine Lo (BA U D6 Bf z_3 U U U) U ?_
   rotate_left
   have h1:=dF g1
   exact absurd h1 (by omega)
  ·unfold intsV
   rw[hno h2];rfl
  ·refine RegL.growG (new:=encZ (intR l[i]).1) hg U (by decide) (AR (by omega) (by decide)) (AR (by omega) (by decide)) U U U U D6 Bf by_3 z_3 (by kernel_rfl) (by kernel_rfl) U U U U U fun v2 s2 g2 o2 c2 l2=>?_
   refine qa rfl<|Ld<|Ao<|qm U ?_
   refine Lq (A0 (b:=1) U u_3 U U (by first|assumption|omega|(simp only[LL];omega))) U ?_
   refine qa rfl<|Ld ?_
   exact⟨(i+1,v2,s2),⟨h,by
    show Grown s2 _ 1 v2 (((l.take (i+1)).map fun w=>(intR w).1).flatMap encZ) (i+1)
    rw[et,List.map_append,List.flatMap_append];exact g2,c2.bound.trans hb,chg_log c2 hb hlg,by
    show intsB (l.take (i+1))=true
    unfold intsB at hB⊢
    rw[et,List.all_append,hB,List.all_cons,h2];rfl⟩,by show l.length-(i+1)<l.length-i;omega,rfl,rfl,by(refine Am.Av ?_;repeat (first|exact trivial|refine⟨rfl,?_⟩))⟩
 ·obtain rfl:i=l.length:=by omega
  rw[List.take_length]at hg hB
  focus
   refine Ab<|Es ?_
   iterate 2 refine qm U ?_
   refine Lq (ol AI U) rfl<|Lq (o2 u_3 U U) rfl<|Ld ?_
   refine Ec U (fun g1=>?_) (fun g1=>?_)
   have h1:=dT g1
   exact absurd h1 (by omega)
   have h1:=dF g1
   refine A9<|Bq rfl<|Es<|qm U ?_
   iterate 2 refine qa U ?_
   refine Ld ?_
   rotate_left
  obtain⟨bs,_,hz⟩:=D4 (α:=Int) (enc:=encZ) (l:=l.map fun w=>(intR w).1) (m:=0) (j:=38) (by rw[List.length_map];exact hg) (fun _ _=>Qn _) (frz_zs _) (zs_closed _)
  refine Aa ⟨.inl U,rfl,hlg,hb,[v,.bool true],.tuple [lst encZ 1 (l.map fun w=>(intR w).1),.bool true],bs++[],Aj U (Aj U U),?_,?_,?_⟩
  ·show((((frzV st 0 39 v []).bind _)).bind _)=_
   rw[hz];rfl
  ·rcases A3 encZ 1 (l.map fun w=>(intR w).1)with e1|⟨_,_,e1⟩<;>rw[e1]<;>rfl
  ·unfold intsV
   rw[hB];rfl
abbrev WordsT:= {l:List (List UInt8)//l.length≤50001∧∀w∈l,w.length≤50000}
theorem map_str_inj:∀ {l m:List (List UInt8)},l.map AV.str=m.map AV.str→l=m
 | [],[],_=>rfl
 | [],_::_,h=>by cases h
 |_::_,[],h=>by cases h
 |a::l,b::m,h=>by
  rw[List.map_cons,List.map_cons,List.cons.injEq,AV.str.injEq]at h
  rw[h.1,map_str_inj h.2]
theorem strsR_inj {l m:List (List UInt8)} (h:strsV l=strsV m):l=m:=map_str_inj (AV.islice.inj h).1
noncomputable def R14:=addC R13 102 (fun l:WordsT=>[strsV l.1]) (fun l=>intsV l.1)
theorem AT {l:List (List UInt8)} (hl:l.length≤50001) (hw:∀w∈l,w.length≤50000):R14 102 [strsV l]=some (intsV l):=
 A2 (f:=102) (enc:=fun l:WordsT=>[strsV l.1]) (res:=fun l=>intsV l.1) (by rintro⟨a,_⟩ ⟨b,_⟩ h;obtain rfl:=strsR_inj (List.cons.inj h).1;rfl) ⟨l,hl,hw⟩
theorem len_lst {α:Type} {enc:α→List AV} {k:Nat} (l:List α):lenSl (lst enc k l)=some (.int .i64 (l.length:Nat)):=by
 cases l<;>rfl
def altB (w:List UInt8):Bool:=intsB (pcs 58 w)&&decide ((pcs 58 w).length=2)
def altF (w:List UInt8):AltT:=match pcs 58 w with
 | [a,b]=>((intR a).1,(intR b).1)
 |_=>(0,0)
def altsB (l:List (List UInt8)):Bool:=l.all altB
def altsV (l:List (List UInt8)):AV:=if altsB l then .tuple [lst encA 2 (l.map altF),.bool true]else .tuple [.nilslice,.bool false]
theorem alternatives_to (l:List (List UInt8)) (hl:l.length≤50001) (hw:∀w∈l,w.length≤50000):CallTo (EK R14) 139 [strsV l] S0 (altsV l):=by
 refine Ax (fn:=Tryz.f139) U U (by kernel_rfl) U U U U ?_
 have hlen:=Dq (ws:=l)
 refine Es ?_
 iterate 2 refine qa U ?_
 refine Ld<|Es<|qa rfl<|Ld<|Ab<|Es<|qa rfl<|Ld ?_
 refine Af ?_
 refine A5 (fun x:Nat×AV×St=>([(5,.int .i64 (x.1:Nat)),(4,x.2.1),(0,strsV l)],x.2.2)) (fun x=>l.length-x.1)
  (fun x=>x.1≤l.length∧Grown x.2.2 60 2 x.2.1 (((l.take x.1).map altF).flatMap encA) x.1∧x.2.2.bound=0∧x.2.2.log=[]∧altsB (l.take x.1)=true) (0,.nilslice,_) ⟨Qn _,Grown.nil _ _ _,rfl,rfl,rfl⟩ rfl (by(refine Am.Av ?_;repeat (first|exact trivial|refine⟨rfl,?_⟩))) ?_
 rintro⟨i,v,st⟩ ⟨hi,hg,hb,hlg,hB⟩
 dsimp only at hi hg hb hlg hB⊢
 by_cases h:i<l.length
 ·have hwi:=hw l[i] (Ql _)
  have hid:=Eu h
  have et:l.take (i+1)=l.take i++[l[i]]:=List.take_succ_eq_append_getElem h
  have hno:altB l[i]=false→altsV l= .tuple [.nilslice,.bool false]:=fun hr=>by
   have:altsB l=false:=by
    cases hn:altsB l with
    |false=>rfl
    |true=>
     have:=List.all_eq_true.1 hn l[i] (Ql _)
     rw[hr]at this;cases this
   unfold altsV
   rw[this];rfl
  have hit_99:R14 99 [.str l[i],.int .u8 58]=some (strsV (pcs 58 l[i])):=hit_99 (c:=58) hwi
  have hpl:=Eo 58 l[i]
  have hcl:=cnt_le (58:UInt8).toNat l[i]
  have hint:=AT (l:=pcs 58 l[i]) (by omega) (fun v hv=>pcs_mem hwi v hv)
  cases hr:intsB (pcs 58 l[i])with
  |false=>
   have AT:R14 102 [strsV (pcs 58 l[i])]=some (.tuple [.nilslice,.bool false]):=by
    rw[hint];unfold intsV;rw[hr];rfl
   focus
    refine Ab<|Es ?_
    iterate 2 refine qm U ?_
    refine Lq (ol AI U) rfl<|Lq (o2 u_3 U U) rfl<|Ld ?_
    refine Ec U (fun g1=>?_) (fun g1=>?_)
    have h1:=dT g1
    refine Ae<|Ab<|Af<|Es ?_
    iterate 2 refine qm U ?_
    refine Lq (Ag U AI Bt U U ‹_›) rfl<|Lq (As U U Fg Bt) U ?_
    refine Lo (Ad U U (by kernel_rfl) U (Ac (hit_99))) U ?_
    refine Lo (Ad U U (by kernel_rfl) U (Ac (AT))) rfl<|qm U ?_
    iterate 2 refine Lq (oe U) U ?_
    iterate 2 refine qa U ?_
    refine Ld<|Ab<|Es<|qm rfl<|Lq (on U) rfl<|qm U ?_
    iterate 3 refine Lk U U ?_
    refine Lq (oT U U U) rfl<|Ld<|Ai U rfl<|Es ?_
    iterate 2 refine qa U ?_
    refine Ld ?_
    refine Aa ⟨.inl U,rfl,‹_›,‹_›,_,_,_,(Aj U (Aj U U)),rfl,rfl,?_⟩
    rotate_left
    have h1:=dF g1
    exact absurd h1 (by omega)
   exact(hno (by unfold altB;rw[hr];rfl)).symm
  |true=>
   by_cases h2:(pcs 58 l[i]).length=2
   ·obtain⟨a,b,hp⟩:∃a b,pcs 58 l[i]=[a,b]:=by
     match hq:pcs 58 l[i],h2 with
     | [a,b],_=>exact⟨a,b,rfl⟩
    have AT:R14 102 [strsV (pcs 58 l[i])]=some (.tuple [.islice [.int .i64 (intR a).1,.int .i64 (intR b).1] 2 1 true,.bool true]):=by
     rw[hint];unfold intsV;rw[hr,hp];rfl
    have eb:altB l[i]=true:=by unfold altB;rw[hr,hp];rfl
    have ef:altF l[i]=((intR a).1,(intR b).1):=by unfold altF;rw[hp]
    focus
     refine Ab<|Es ?_
     iterate 2 refine qm U ?_
     refine Lq (ol AI U) rfl<|Lq (o2 u_3 U U) rfl<|Ld ?_
     refine Ec U (fun g1=>?_) (fun g1=>?_)
     have h1:=dT g1
     refine Ae<|Ab<|Af<|Es ?_
     iterate 2 refine qm U ?_
     refine Lq (Ag U AI Bt U U ‹_›) rfl<|Lq (As U U Fg Bt) U ?_
     refine Lo (Ad U U (by kernel_rfl) U (Ac (hit_99))) U ?_
     refine Lo (Ad U U (by kernel_rfl) U (Ac (AT))) rfl<|qm U ?_
     iterate 2 refine Lq (oe U) U ?_
     iterate 2 refine qa U ?_
     refine Ld<|Ab<|Es<|qm rfl<|Lq (on U) rfl<|qm rfl<|Lh U U (om U)<|Lh U U (ol D6 U) ?_
     refine Lh U U (o2 u_3 U U)<|Lq (oF U U U) rfl<|Ld<|Ap U rfl<|Ae<|Dw (by kernel_rfl) ?_
     iterate 2 refine Nq (om U) U ?_
     refine Nq (Bh (k:=0) U D6 Bf U U (by first|assumption|omega|(simp only[LL];omega)) U) U ?_
     refine Nq (As U U B3 Bf) rfl<|Nq (om U) U ?_
     refine Nq (Bh (k:=1) U D6 Bf U U (by first|assumption|omega|(simp only[LL];omega)) U) U ?_
     refine Nq (As U U B3 Bf) rfl<|Nq (AJ U pl_60 U U) rfl<|Bi U u_56 sz_60 z_60 U U U (.inl U) U U ?_
     rotate_left
     have h1:=dF g1
     exact absurd h1 (by omega)
    refine DJ (new:=encA ((intR a).1,(intR b).1)) hg (by rw[hb];exact Qn _) U (by decide) (AR (by omega) (by decide)) (AR (by omega) (by decide)) U U U U u_56 sz_60 by_60 z_60 (by kernel_rfl) (by kernel_rfl) U U (by kernel_rfl) (by kernel_rfl) (.inl U) U U fun v2 s2 nl4 g2 o2 c2 l2 hcl2=>?_
    refine Nq (oa U) rfl<|AG<|Ao<|qm U ?_
    refine Lq (A0 (b:=1) U u_3 U U (by first|assumption|omega|(simp only[LL];omega))) U ?_
    refine qa rfl<|Ld ?_
    exact⟨(i+1,v2,s2),⟨h,by
     show Grown s2 _ 2 v2 (((l.take (i+1)).map altF).flatMap encA) (i+1)
     rw[et,List.map_append,List.flatMap_append,List.map_cons,ef];exact g2,c2.bound.trans hb,chg_log c2 hb hlg,by
     show altsB (l.take (i+1))=true
     unfold altsB at hB⊢
     rw[et,List.all_append,hB,List.all_cons,eb];rfl⟩,by show l.length-(i+1)<l.length-i;omega,rfl,rfl,by(refine Am.Av ?_;repeat (first|exact trivial|refine⟨rfl,?_⟩))⟩
   ·have hln:=len_lst (enc:=encZ) (k:=1) ((pcs 58 l[i]).map fun w=>(intR w).1)
    rw[List.length_map]at hln
    have AT:R14 102 [strsV (pcs 58 l[i])]=some (.tuple [lst encZ 1 ((pcs 58 l[i]).map fun w=>(intR w).1),.bool true]):=by
     rw[hint];unfold intsV;rw[hr];rfl
    focus
     refine Ab<|Es ?_
     iterate 2 refine qm U ?_
     refine Lq (ol AI U) rfl<|Lq (o2 u_3 U U) rfl<|Ld ?_
     refine Ec U (fun g1=>?_) (fun g1=>?_)
     have h1:=dT g1
     refine Ae<|Ab<|Af<|Es ?_
     iterate 2 refine qm U ?_
     refine Lq (Ag U AI Bt U U ‹_›) rfl<|Lq (As U U Fg Bt) U ?_
     refine Lo (Ad U U (by kernel_rfl) U (Ac (hit_99))) U ?_
     refine Lo (Ad U U (by kernel_rfl) U (Ac (AT))) rfl<|qm U ?_
     iterate 2 refine Lq (oe U) U ?_
     iterate 2 refine qa U ?_
     refine Ld<|Ab<|Es<|qm rfl<|Lq (on U) rfl<|qm rfl<|Lh U U (om U)<|Lh U U (OpQ.lenV U U U U D6 U ‹_›) ?_
     refine Lh U U (o2 u_3 U U)<|Lq (oF U U U) rfl<|Ld ?_
     refine Ec U (fun g2=>?_) (fun g2=>?_)
     have h2:=nT g2
     refine Es ?_
     iterate 2 refine qa U ?_
     refine Ld ?_
     refine Aa ⟨.inl U,rfl,‹_›,‹_›,_,_,_,(Aj U (Aj U U)),rfl,rfl,?_⟩
     rotate_left
     have h2:=nF g2
     exact absurd h2 (by omega)
     have h1:=dF g1
     exact absurd h1 (by omega)
    ·exact(hno (by unfold altB;rw[decide_eq_false ‹_›,Bool.and_false])).symm
    all_goals exact absurd (by omega) (by assumption:¬(pcs 58 l[i]).length=2)
 ·obtain rfl:i=l.length:=by omega
  rw[List.take_length]at hg hB
  focus
   refine Ab<|Es ?_
   iterate 2 refine qm U ?_
   refine Lq (ol AI U) rfl<|Lq (o2 u_3 U U) rfl<|Ld ?_
   refine Ec U (fun g1=>?_) (fun g1=>?_)
   have h1:=dT g1
   exact absurd h1 (by omega)
   have h1:=dF g1
   refine A9<|Bq rfl<|Es<|qm U ?_
   iterate 2 refine qa U ?_
   refine Ld ?_
   rotate_left
  obtain⟨bs,_,hz⟩:=D4 (α:=AltT) (enc:=encA) (l:=l.map altF) (m:=0) (j:=38) (by rw[List.length_map];exact hg) (fun _ _=>Qn _) (frz_as _) (as_closed _)
  refine Aa ⟨.inl U,rfl,hlg,hb,[v,.bool true],.tuple [lst encA 2 (l.map altF),.bool true],bs++[],Aj U (Aj U U),?_,?_,?_⟩
  ·show((((frzV st 0 39 v []).bind _)).bind _)=_
   rw[hz];rfl
  ·rcases A3 encA 2 (l.map altF)with e1|⟨_,_,e1⟩<;>rw[e1]<;>rfl
  ·unfold altsV
   rw[hB];rfl
theorem ints_ok {l:List (List UInt8)}:intsB l=true↔∀w∈l,NumP w:=by
 unfold intsB
 rw[List.all_eq_true]
 exact⟨fun h w hw=>(De w).1.1 (h w hw),fun h w hw=>(De w).1.2 (h w hw)⟩
theorem ints_map {l:List (List UInt8)} (h:∀w∈l,NumP w):(l.map fun w=>(intR w).1)=l.map numV:=List.map_congr_left fun w hw=>(De w).2 (h w hw)
theorem num_colon {w:List UInt8} (h:NumP w):idxS 58 w=none:=by
 refine idxS_none.2 fun hm=>?_
 have hd:=dig_all.2 h.2.2.2
 have key:58∈trimV w→False:=fun h2=>by
  have:=List.all_eq_true.1 hd 58 h2
  exact absurd this (by decide)
 cases w with
 |nil=>cases hm
 |cons b u=>
  by_cases hb:b=45
  ·subst hb
   rcases Qk.1 hm with h2|h2
   ·exact absurd h2 (by decide)
   ·exact key h2
  ·rw[trim_ne hb]at key
   exact key hm
theorem alt_ok (w:List UInt8):(altB w=true↔AltP w)∧(AltP w→altF w=altV w):=by
 have back:AltP w→altB w=true∧altF w=altV w:=fun⟨n,h1,h2,h3⟩=>by
  have hp:pcs 58 w=[w.take n,w.drop (n+1)]:=by rw[ER h1,Ey (num_colon h3)]
  refine⟨?_,?_⟩
  ·unfold altB
   rw[hp,ints_ok.2 (fun v hv=>by
    rcases Qk.1 hv with rfl|hv
    ·exact h2
    ·rw[Qo.1 hv];exact h3)]
   rfl
  ·unfold altF altV
   rw[hp,h1]
   show((intR _).1,(intR _).1)=(numV _,numV _)
   rw[(De _).2 h2,(De _).2 h3]
 refine⟨⟨fun h=>?_,fun h=>(back h).1⟩,fun h=>(back h).2⟩
 unfold altB at h
 rw[Qf,decide_eq_true_eq]at h
 cases hx:idxS 58 w with
 |none=>rw[Ey hx]at h;exact absurd h.2 (by simp)
 |some n=>
  rw[ER hx]at h
  cases hy:idxS 58 (w.drop (n+1))with
  |some m=>
   rw[ER hy,List.length_cons,List.length_cons]at h
   have:=pcs_ne 58 ((w.drop (n+1)).drop (m+1))
   exact absurd (List.eq_nil_of_length_eq_zero (by omega)) this
  |none=>
   rw[Ey hy]at h
   have:=ints_ok.1 h.1
   exact⟨n,hx,this _ (Qh ..),this _ (Qg _ (Qh ..))⟩
theorem alts_ok {l:List (List UInt8)}:altsB l=true↔∀w∈l,AltP w:=by
 unfold altsB
 rw[List.all_eq_true]
 exact⟨fun h w hw=>(alt_ok w).1.1 (h w hw),fun h w hw=>(alt_ok w).1.2 (h w hw)⟩
theorem alts_map {l:List (List UInt8)} (h:∀w∈l,AltP w):l.map altF=l.map altV:=List.map_congr_left fun w hw=>(alt_ok w).2 (h w hw)
def insF (op:Int) (ws:List (List UInt8)):InsT×Bool:=
 if op=1 then match ws with
  | []=>({op:=op,a:=0,alts:=[],to:=[],term:=0,n:=0,args:=[]},false)
  |w::u=>({op:=op,a:=(intR w).1,alts:=if altsB u then u.map altF else [],to:=[],term:=0,n:=0,args:=[]},(intR w).2&&altsB u)
 else if op=2 then({op:=op,a:=0,alts:=[],to:=if intsB ws then ws.map fun w=>(intR w).1 else [],term:=0,n:=0,args:=[]},intsB ws)
 else if op=3∨op=4 then({op:=op,a:=0,alts:=[],to:=[],term:=0,n:=0,args:=[]},decide (ws=[]))
 else if op=5 then match ws with
  |w1::w2::u=>if intsB (w1::w2::u)then({op:=op,a:=0,alts:=[],to:=[],term:=(intR w1).1,n:=(intR w2).1,args:=u.map fun w=>(intR w).1},true)else({op:=op,a:=0,alts:=[],to:=[],term:=0,n:=0,args:=[]},false)
  |_=>({op:=op,a:=0,alts:=[],to:=[],term:=0,n:=0,args:=[]},false)
 else if op=6 then match ws with
  | [w]=>if intsB [w]then({op:=op,a:=(intR w).1,alts:=[],to:=[],term:=0,n:=0,args:=[]},true)else({op:=op,a:=0,alts:=[],to:=[],term:=0,n:=0,args:=[]},false)
  |_=>({op:=op,a:=0,alts:=[],to:=[],term:=0,n:=0,args:=[]},false)
 else({op:=op,a:=0,alts:=[],to:=[],term:=0,n:=0,args:=[]},false)
theorem insF_ok {op:Int} {ws:List (List UInt8)}:(insF op ws).2=true→InsR op ws (insF op ws).1 []:=by
 unfold insF InsR
 intro h
 split at h
 ·next e=>
  rw[if_pos e,if_pos e]
  cases ws with
  |nil=>cases h
  |cons w u=>
   have h:((intR w).2&&altsB u)=true:=h
   rw[Qf]at h
   have ha:=alts_ok.1 h.2
   refine⟨w,⟨u,rfl,(De w).1.1 h.1,ha,?_⟩,rfl⟩
   show InsT.mk _ _ _ _ _ _ _=_
   rw[(De w).2 ((De w).1.1 h.1),if_pos h.2,alts_map ha]
 ·next e1=>
  rw[if_neg e1,if_neg e1]
  split at h
  ·next e=>
   rw[if_pos e,if_pos e]
   have h:intsB ws=true:=h
   have hi:=ints_ok.1 h
   refine⟨hi,?_,rfl⟩
   show InsT.mk _ _ _ _ _ _ _=_
   rw[if_pos h,ints_map hi]
  ·next e2=>
   rw[if_neg e2,if_neg e2]
   split at h
   ·next e=>
    rw[if_pos e,if_neg (by omega),if_neg (by omega)]
    have h:decide (ws=[])=true:=h
    exact⟨rfl,(dT h).symm⟩
   ·next e3=>
    rw[if_neg e3]
    split at h
    ·next e=>
     rw[if_pos e,if_pos e]
     match ws,h with
     |w1::w2::u,h=>
      have h:(if intsB (w1::w2::u)then(({op:=op,a:=0,alts:=[],to:=[],term:=(intR w1).1,n:=(intR w2).1,args:=u.map fun w=>(intR w).1}:InsT),true)else({op:=op,a:=0,alts:=[],to:=[],term:=0,n:=0,args:=[]},false)).2=true:=h
      cases hb:intsB (w1::w2::u)with
      |false=>rw[hb]at h;cases h
      |true=>
       have hi:=ints_ok.1 hb
       refine⟨w1,w2,u,rfl,hi w1 (by simp),hi w2 (by simp),fun w hw=>hi w (by simp[hw]),?_,rfl⟩
       show(if intsB (w1::w2::u)then(_:InsT×Bool)else _).1=_
       rw[if_pos hb,(De w1).2 (hi w1 (by simp)),(De w2).2 (hi w2 (by simp)),ints_map (l:=u) (fun w hw=>hi w (by simp[hw]))]
    ·next e4=>
     rw[if_neg e4,if_neg e4]
     split at h
     ·next e=>
      rw[if_pos e,if_pos e]
      match ws,h with
      | [w],h=>
       have h:(if intsB [w]then(({op:=op,a:=(intR w).1,alts:=[],to:=[],term:=0,n:=0,args:=[]}:InsT),true)else({op:=op,a:=0,alts:=[],to:=[],term:=0,n:=0,args:=[]},false)).2=true:=h
       cases hb:intsB [w]with
       |false=>rw[hb]at h;cases h
       |true=>
        have hi:=ints_ok.1 hb w (by simp)
        refine⟨w,rfl,hi,?_⟩
        show(if intsB [w]then(_:InsT×Bool)else _).1=_
        rw[if_pos hb,(De w).2 hi]
     ·cases h
theorem insF_of {op:Int} {ws:List (List UInt8)} {x:InsT} (ho:1≤op∧op≤6) (h:InsR op ws x []):(insF op ws).2=true:=by
 unfold InsR at h
 unfold insF
 split at h
 ·next e=>
  rw[if_pos e]
  obtain⟨w,⟨u,rfl,h1,h2,_⟩,_⟩:=h
  show((intR w).2&&altsB u)=true
  rw[(De w).1.2 h1,alts_ok.2 h2];rfl
 ·next e1=>
  rw[if_neg e1]
  split at h
  ·next e=>
   rw[if_pos e]
   exact ints_ok.2 h.1
  ·next e2=>
   rw[if_neg e2]
   split at h
   ·next e=>
    rw[if_neg (by omega),if_pos e]
    obtain⟨w1,w2,u,rfl,h1,h2,h3,_⟩:=h
    have:intsB (w1::w2::u)=true:=ints_ok.2 fun w hw=>by
     rcases Qk.1 hw with rfl|hw
     ·exact h1
     rcases Qk.1 hw with rfl|hw
     ·exact h2
     ·exact h3 w hw
    show(if intsB (w1::w2::u)then(_:InsT×Bool)else _).2=true
    rw[if_pos this]
   ·next e3=>
    split at h
    ·next e=>
     rw[if_neg (by omega),if_neg e3,if_pos e]
     obtain⟨w,rfl,h1,_⟩:=h
     have:intsB [w]=true:=ints_ok.2 fun v hv=>by rw[Qo.1 hv];exact h1
     show(if intsB [w]then(_:InsT×Bool)else _).2=true
     rw[if_pos this]
    ·next e=>
     rw[if_pos (by omega)]
     exact decide_eq_true h.2.symm
noncomputable def R15:=addC R14 139 (fun l:WordsT=>[strsV l.1]) (fun l=>altsV l.1)
theorem hit_139 {l:List (List UInt8)} (hl:l.length≤50001) (hw:∀w∈l,w.length≤50000):R15 139 [strsV l]=some (altsV l):=
 A2 (f:=139) (enc:=fun l:WordsT=>[strsV l.1]) (res:=fun l=>altsV l.1) (by rintro⟨a,_⟩ ⟨b,_⟩ h;obtain rfl:=strsR_inj (List.cons.inj h).1;rfl) ⟨l,hl,hw⟩
def wl6:List (List UInt8):=[[99,97,115,101],[111,114],[102,97,105,108],[102,114,101,101],[110,111,100,101],[101,110,116,101,114]]
def wordsRA:AV:=strsV wl6
theorem words_to:CallTo (EK R15) 129 [] S0 wordsRA:=by
 refine Ax (fn:=Tryz.f129) U U (by kernel_rfl) U U U rfl<|Es<|qa rfl<|Ld<|Es<|Lo (DW 1 U AI Bt z_9 U U U U) rfl<|qa rfl<|Ld ?_
 refine Aa (Er U ?_)
 rfl
noncomputable def R16:=addC R15 129 (fun _:Unit=>[]) (fun _=>wordsRA)
theorem hit_129:R16 129 []=some wordsRA:=
 A2 (f:=129) (enc:=fun _:Unit=>[]) (res:=fun _=>wordsRA) (fun _ _ _=>rfl) ()
def insW (p:InsT×Bool):AV:= .tuple [.agg (if p.2 then encIF p.1 else encIR p.1),.bool p.2]
theorem DP {st:St} {b:Nat} {o:Option AObj} (hb:st.bound=0) (hl:st.log=[]):(st.put b o).log=[]:=by
 show(bif Nat.blt b st.bound then _ else st.log)=[]
 rw[hb,hl];rfl
theorem slice_strs2 {s:St} {w v:List UInt8} {ws:List (List UInt8)}:sliceSlV s 1 (some (.int .i64 2)) none none (strsV (w::v::ws))=some (strsV ws):=by
 have hb:boundsA 0 (ws.length+1+1) (some (.int .i64 ((2:Nat):Int)))=some 2:=AL (by omega)
 have hc:cut ((w::v::ws).map AV.str) (2*1) ((ws.length+1+1-2)*1)=some (ws.map .str):=by
  rw[cut_eq (by simp;omega),show ws.length+1+1-2=ws.length by omega,List.map_cons,List.map_cons]
  show some ((ws.map AV.str).take _)=_
  rw[List.take_of_length_le (by simp)]
 show((boundsA 0 (ws.length+1+1) (some (.int .i64 ((2:Nat):Int)))).bind fun l=>(cut ((w::v::ws).map AV.str) (l*1) ((ws.length+1+1-l)*1)).bind fun q=>some (AV.islice q (ws.length+1+1-l) 1 true))=_
 rw[hb]
 show((cut ((w::v::ws).map AV.str) (2*1) ((ws.length+1+1-2)*1)).bind _)=_
 rw[hc,Qe,show ws.length+1+1-2=ws.length by omega];rfl
def fixA (v:AV):Prop:=(∀(s:St) (m n:Nat) (ks:List Nat),frzV s m (n+1) v ks=some (v,ks))∧∀m n,underV m (n+1) v=true
theorem fix_int {k:IntKind} {i:Int}:fixA (.int k i):=⟨fun _ _ _ _=>rfl,fun _ _=>rfl⟩
theorem fix_lst {α:Type} {enc:α→List AV} {k:Nat} {l:List α}:fixA (lst enc k l):=by
 refine⟨fun s m n ks=>frz_lst,fun m n=>?_⟩
 rcases A3 enc k l with e|⟨_,_,e⟩<;>rw[e]<;>rfl
theorem fix_recs {α:Type} {enc:α→List AV} {k:Nat} {l:List α}:fixA (recs enc k l):=⟨fun _ _ _ _=>rfl,fun _ _=>rfl⟩
theorem fix_I (x:InsT) (b:Bool):∀v∈(if b then encIF x else encIR x),fixA v:=by
 intro v hv
 cases b with
 |true=>
  rw[if_pos rfl]at hv
  unfold encIF at hv
  simp only[Qk,List.not_mem_nil,or_false]at hv
  rcases hv with rfl|rfl|rfl|rfl|rfl|rfl|rfl
  ·exact fix_int
  ·exact fix_int
  ·exact fix_lst
  ·exact fix_lst
  ·exact fix_int
  ·exact fix_int
  ·split
   ·exact fix_recs
   ·exact fix_lst
 |false=>
  rw[if_neg (by decide)]at hv
  unfold encIR at hv
  simp only[Qk,List.not_mem_nil,or_false]at hv
  rcases hv with rfl|rfl|rfl|rfl|rfl|rfl|rfl
  ·exact fix_int
  ·exact fix_int
  ·exact fix_lst
  ·exact fix_lst
  ·exact fix_int
  ·exact fix_int
  ·exact fix_lst
theorem BW {K:FuncId→List AV→Option AV} {st:St} {l:Sl} {x:InsT} {b:Bool} {X:List AV} {p:InsT×Bool} (h2:Am.look 2 l=some (.ptr 0 0)) (h3:Am.look 3 l=some (.bool b)) (hg:st.heap.get 0=some (.cells X 58 false)) (hX:X=if b then encIF x else encIR x) (hp:p=(x,b)):
 ∃vs w ks,resultsL (EK K) st l Tryz.f103.results.toList=some vs∧frzV st 0 40 (oneA vs) []=some (w,ks)∧underV 0 40 w=true∧w=insW p:=by
 subst hp
 have hlen:X.length=7:=by rw[hX];cases b<;>rfl
 have hfx:=fix_I x b
 rw[←hX]at hfx
 have htk:X.take 7=X:=List.take_of_length_le (by omega)
 refine⟨[.agg (X.take 7),.bool b],.tuple [.agg X,.bool b],[],D0 (k:=7) h2 U U hg (by omega) (Aj h3 U),?_,?_,by rw[hX];rfl⟩
 ·rw[htk]
  have h1:∀ks,frzV.many (frzV st 0 38) X ks=some (X,ks):=frz_all fun v hv ks=>(hfx v hv).1 st 0 37 ks
  have h2:frzV st 0 39 (.agg X) []=some (.agg X,[]):=by
   show((frzV.many (frzV st 0 38) X []).bind _)=_
   rw[h1];rfl
  show((((frzV st 0 39 (.agg X) []).bind _)).bind _)=_
  rw[h2];rfl
 ·show((X.all (underV 0 38))&&(underV 0 39 (.bool b)&&true))=true
  rw[List.all_eq_true.2 fun v hv=>(hfx v hv).2 0 37];rfl
theorem enc_ne {x:InsT} (h:¬x.op=5) (b:Bool):(if b then encIF x else encIR x)=encIR x:=by
 have:encIF x=encIR x:=by unfold encIF encIR;rw[if_neg h]
 rw[this];cases b<;>rfl
theorem dec_one {α:Type} [DecidableEq α] {w:α} {ws:List α}:decide (ws=[])=decide ((((w::ws).length:Nat):Int)=1):=by
 cases ws with
 |nil=>rfl
 |cons a l=>rw[decide_eq_false (show¬a::l=[]from fun h=>by cases h),decide_eq_false (by rw[List.length_cons,List.length_cons];omega)]
theorem slice_z2 {s:St} {a b:Int} {r:List Int}:sliceSlV s 1 (some (.int .i64 2)) none none (recs encZ 1 (a::b::r))=some (recs encZ 1 r):=by
 have hl:(r.flatMap encZ).length=r.length:=by rw[flat_len Be];omega
 have hb:boundsA 0 (r.length+1+1) (some (.int .i64 ((2:Nat):Int)))=some 2:=AL (by omega)
 have hc:cut ((a::b::r).flatMap encZ) (2*1) ((r.length+1+1-2)*1)=some (r.flatMap encZ):=by
  rw[cut_eq (by rw[flat_len Be,List.length_cons,List.length_cons];omega),show r.length+1+1-2=r.length by omega]
  show some ((r.flatMap encZ).take _)=_
  rw[List.take_of_length_le (by omega)]
 show((boundsA 0 (r.length+1+1) (some (.int .i64 ((2:Nat):Int)))).bind fun l=>(cut ((a::b::r).flatMap encZ) (l*1) ((r.length+1+1-l)*1)).bind fun q=>some (AV.islice q (r.length+1+1-l) 1 true))=_
 rw[hb]
 show((cut ((a::b::r).flatMap encZ) (2*1) ((r.length+1+1-2)*1)).bind _)=_
 rw[hc,Qe,show r.length+1+1-2=r.length by omega];rfl
theorem insF5_no {op:Int} {ws:List (List UInt8)} (h:op=5) (hB:intsB ws=false∨ws.length<2):insF op ws=({op:=op,a:=0,alts:=[],to:=[],term:=0,n:=0,args:=[]},false):=by
 subst h
 unfold insF
 rw[if_neg (by decide),if_neg (by decide),if_neg (by decide),if_pos rfl]
 match ws,hB with
 | [],_=>rfl
 | [a],_=>rfl
 |a::b::u,hB=>
  show(if intsB (a::b::u)then(_:InsT×Bool)else _)=_
  rw[hB.resolve_right (by rw[List.length_cons,List.length_cons];omega)];rfl
theorem insF5_yes {op:Int} {a b:List UInt8} {u:List (List UInt8)} (h:op=5) (hB:intsB (a::b::u)=true):insF op (a::b::u)=({op:=op,a:=0,alts:=[],to:=[],term:=(intR a).1,n:=(intR b).1,args:=u.map fun w=>(intR w).1},true):=by
 subst h
 unfold insF
 rw[if_neg (by decide),if_neg (by decide),if_neg (by decide),if_pos rfl]
 show(if intsB (a::b::u)then(_:InsT×Bool)else _)=_
 rw[hB];rfl
theorem insF6_no {op:Int} {ws:List (List UInt8)} (h:op=6) (hB:intsB ws=false∨ws.length≠1):insF op ws=({op:=op,a:=0,alts:=[],to:=[],term:=0,n:=0,args:=[]},false):=by
 subst h
 unfold insF
 rw[if_neg (by decide),if_neg (by decide),if_neg (by decide),if_neg (by decide),if_pos rfl]
 match ws,hB with
 | [],_=>rfl
 | [a],hB=>
  show(if intsB [a]then(_:InsT×Bool)else _)=_
  rw[hB.resolve_right (fun h=>h rfl)];rfl
 |a::b::u,_=>rfl
theorem insF6_yes {op:Int} {a:List UInt8} (h:op=6) (hB:intsB [a]=true):insF op [a]=({op:=op,a:=(intR a).1,alts:=[],to:=[],term:=0,n:=0,args:=[]},true):=by
 subst h
 unfold insF
 rw[if_neg (by decide),if_neg (by decide),if_neg (by decide),if_neg (by decide),if_pos rfl]
 show(if intsB [a]then(_:InsT×Bool)else _)=_
 rw[hB];rfl
structure InsS (st:St) (X:List AV):Prop where
 g1:st.heap.get 1=some (.cells X 58 false)
 g0:st.heap.get 0=some (.cells [.int .i64 0,.int .i64 0,.nilslice,.nilslice,.int .i64 0,.int .i64 0,.nilslice] 58 false)
 hb:st.bound=0
 hlg:st.log=[]
theorem InsS.store {st:St} {X X':List AV} (h:InsS st X):InsS (st.put 1 (some (.cells X' 58 false))) X':=
 ⟨Bl.trans (if_pos rfl),(Bl.trans (if_neg (by decide))).trans h.g0,h.hb,DP h.hb h.hlg⟩
theorem InsS.storeB {st:St} {X X':List AV} (h:InsS st X):InsS (putB st 1 (some (.cells X' 58 false))) X':=
 ⟨get_putB.trans (if_pos rfl),(get_putB.trans (if_neg (by decide))).trans h.g0,h.hb,by
  show(bif Nat.blt 1 st.bound then _ else st.log)=[]
  rw[h.hb,h.hlg];rfl⟩
theorem sliceZ {E:Env} {o:Oper} {l:Sl} {t e:TypeId} {x:Operand} {lo hi:Option Operand} {a b:Int} {r:List Int} (ho:o.op= .slice t x lo hi none) (hu:und E t=some (.slice e)) (hs:Am.sizeOf E e=some 1)
 (hx:opndL x l=some (recs encZ 1 (a::b::r))) (hlo:opndOL lo l=some (some (.int .i64 2))) (hhi:opndOL hi l=some none):OpQ E o l (recs encZ 1 r):=by
 have hl:(r.flatMap encZ).length=r.length:=by rw[flat_len Be];omega
 have h:=Ef (E:=E) (o:=o) (l:=l) (cs:=(a::b::r).flatMap encZ) (n:=r.length+1+1) (h:=r.length+1+1) (a:=2) (cl:=true) ho hu hs hx hlo hhi rfl (AL (n:=2) (by omega)) (by rw[flat_len Be,List.length_cons,List.length_cons];omega)
 have e1:(((a::b::r).flatMap encZ).drop (2*1)).take ((r.length+1+1-2)*1)=r.flatMap encZ:=by
  show(r.flatMap encZ).take _=_
  rw[List.take_of_length_le (by omega)]
 rw[e1,show r.length+1+1-2=r.length by omega]at h
 exact h
theorem op_inv (w:List UInt8) (h:opS w≠0):wl6.getD (opS w-1).toNat []=w:=by
 revert h
 unfold opS
 (repeat' split)<;>intro h<;>first|(subst w;rfl)|exact absurd rfl h
theorem op_key (w:List UInt8) (i:Nat) (h:i<wl6.length):bytesEq wl6[i] w=decide (opS w=(i:Int)+1):=by
 rw[Bn]
 refine decide_eq_decide.2 ⟨?_,fun e=>?_⟩
 ·have h6:i<6:=h
  match i,h6 with
  |0,_=>rintro rfl;rfl
  |1,_=>rintro rfl;rfl
  |2,_=>rintro rfl;rfl
  |3,_=>rintro rfl;rfl
  |4,_=>rintro rfl;rfl
  |5,_=>rintro rfl;rfl
 ·have h2:=op_inv w (by omega)
  rw[e,show((i:Int)+1-1).toNat=i by omega,List.getD_eq_getElem?_getD,Qi h]at h2
  exact h2
theorem op_le (w:List UInt8):0≤opS w∧opS w≤6:=by
 unfold opS
 (repeat' split)<;>omega
set_option maxHeartbeats 4000000 in
theorem Fc (w:List UInt8) (ws:List (List UInt8)) (hl:ws.length≤50000) (hw:∀v∈w::ws,v.length≤50000):CallTo (EK R16) 103 [strsV (w::ws)] S0 (insW (insF (opS w) ws)):=by
 refine Ax (fn:=Tryz.f103) U U (by kernel_rfl) U U U rfl<|Es<|Lo (AE 1 U z_58 U) rfl<|qa rfl<|Ld<|Es<|Lq (AJ U pl_58 U U) rfl<|Lo (AE 2 U z_58 U) U ?_
 refine Ak (A4 U AP U U U U U U) U rfl<|Ld<|Ab ?_
 refine Fz (fun st:St=>([(4,.ptr 1 0),(3,.bool false),(2,.ptr 0 0),(0,strsV (w::ws))],st)) (fun st=>st.heap.get 1=some (.cells [.int .i64 (opS w),.int .i64 0,.nilslice,.nilslice,.int .i64 0,.int .i64 0,.nilslice] 58 false)∧
  st.heap.get 0=some (.cells [.int .i64 0,.int .i64 0,.nilslice,.nilslice,.int .i64 0,.int .i64 0,.nilslice] 58 false)∧st.bound=0∧st.log=[]∧st.next=2) ?_ ?_
 ·have hix:=idx_strs (w:=w) (ws:=ws)
  obtain⟨wl,hwl⟩:∃wl,wl=wl6:=⟨_,rfl⟩
  have hit_129:R16 129 []=some (strsV wl):=by rw[hwl];exact hit_129
  have hlw:=Dq (ws:=wl)
  have hl6:wl.length=6:=by rw[hwl];rfl
  have key:∀i (h:i<wl.length),bytesEq wl[i] w=decide (opS w=(i:Int)+1):=by subst hwl;exact op_key w
  have hop:=op_le w
  clear hwl
  refine Es<|qa rfl<|Ld<|Af ?_
  refine A5 (fun x:Nat×St=>([(5,.int .i64 (x.1:Nat)),(4,.ptr 1 0),(3,.bool false),(2,.ptr 0 0),(0,strsV (w::ws))],x.2)) (fun x=>6-x.1)
   (fun x=>x.1≤6∧x.2.heap.get 1=some (.cells [.int .i64 (if opS w≤(x.1:Int)then opS w else 0),.int .i64 0,.nilslice,.nilslice,.int .i64 0,.int .i64 0,.nilslice] 58 false)∧
   x.2.heap.get 0=some (.cells [.int .i64 0,.int .i64 0,.nilslice,.nilslice,.int .i64 0,.int .i64 0,.nilslice] 58 false)∧x.2.bound=0∧x.2.log=[]∧x.2.next=2) (0,_) ⟨Qn _,?_,(Dx 0).trans rfl,rfl,rfl,rfl⟩ rfl (by(refine Am.Av ?_;repeat (first|exact trivial|refine⟨rfl,?_⟩))) ?_
  ·have:(if opS w≤((0:Nat):Int)then opS w else 0)=0:=by split<;>omega
   exact((Dx 1).trans U).trans (congrArg (fun z=>some (AObj.cells [.int .i64 z,.int .i64 0,.nilslice,.nilslice,.int .i64 0,.int .i64 0,.nilslice] 58 false)) this.symm)
  rintro⟨i,st⟩ ⟨hi,g1,g0,hb,hlg,hn⟩
  dsimp only at hi g1 g0 hb hlg hn⊢
  by_cases h:i<wl.length
  ·have hid:=Eu h
   have hk:=key i h
   cases hd:decide (opS w=(i:Int)+1)with
   |true=>
    rw[hd]at hk
    have e1:=dT hd
    focus
     refine Ab<|Es<|qm U ?_
     refine Lo (Ad U U (by kernel_rfl) U (Ac (hit_129))) rfl<|Lq (ol AI U) rfl<|Lq (o2 u_3 U U) rfl<|Ld ?_
     refine Ec U (fun g2=>?_) (fun g2=>?_)
     have h2:=dT g2
     refine Ae<|Ab<|Af<|AK (by kernel_rfl) ?_
     refine Et (B6 U U (by kernel_rfl) U (hit_129)) (.inl U) U rfl<|Nq (om U) rfl<|Nq (Ag U AI Bt U U ‹_›) rfl<|Nq (As U U Fg Bt) rfl<|Nq (om U) rfl<|Nq (Ag (k:=0) U AI Bt U U ‹_›) rfl<|Nq (As U U Fg Bt) rfl<|Nq (AX U u_9 U U U U) U ?_
     refine AG<|Ai U ‹_›<|Ao<|qm U ?_
     refine Lq (A0 (a:=1) U u_3 U U (by first|assumption|omega|(simp only[LL];omega))) U ?_
     refine Lq (of B1 U) rfl<|Ak (Ar U DN U U (Aq ‹_› U U U)) U rfl<|Ld<|Ao<|qm U ?_
     refine Lq (A0 (b:=1) U u_3 U U (by first|assumption|omega|(simp only[LL];omega))) U ?_
     refine qa rfl<|Ld ?_
     rotate_left
     have h2:=dF g2
     exact absurd h2 (by omega)
    refine⟨(i+1,_),⟨by omega,(Bl.trans (if_pos U)).trans (congrArg (fun z=>some (AObj.cells [.int .i64 z,.int .i64 0,.nilslice,.nilslice,.int .i64 0,.int .i64 0,.nilslice] 58 false)) ?_),(Bl.trans (if_neg (by decide))).trans g0,hb,DP hb hlg,hn⟩,by show 6-(i+1)<6-i;omega,rfl,rfl,by(refine Am.Av ?_;repeat (first|exact trivial|refine⟨rfl,?_⟩))⟩
    show((1+i:Nat):Int)=if opS w≤((i+1:Nat):Int)then opS w else 0
    rw[if_pos (by omega)];omega
   |false=>
    rw[hd]at hk
    have e1:=dF hd
    focus
     refine Ab<|Es<|qm U ?_
     refine Lo (Ad U U (by kernel_rfl) U (Ac (hit_129))) rfl<|Lq (ol AI U) rfl<|Lq (o2 u_3 U U) rfl<|Ld ?_
     refine Ec U (fun g2=>?_) (fun g2=>?_)
     have h2:=dT g2
     refine Ae<|Ab<|Af<|AK (by kernel_rfl) ?_
     refine Et (B6 U U (by kernel_rfl) U (hit_129)) (.inl U) U rfl<|Nq (om U) rfl<|Nq (Ag U AI Bt U U ‹_›) rfl<|Nq (As U U Fg Bt) rfl<|Nq (om U) rfl<|Nq (Ag (k:=0) U AI Bt U U ‹_›) rfl<|Nq (As U U Fg Bt) rfl<|Nq (AX U u_9 U U U U) U ?_
     refine AG<|Ap U ‹_›<|Ae<|Ao<|qm U ?_
     refine Lq (A0 (b:=1) U u_3 U U (by first|assumption|omega|(simp only[LL];omega))) U ?_
     refine qa rfl<|Ld ?_
     rotate_left
     have h2:=dF g2
     exact absurd h2 (by omega)
    refine⟨(i+1,st),⟨by omega,g1.trans (congrArg (fun z=>some (AObj.cells [.int .i64 z,.int .i64 0,.nilslice,.nilslice,.int .i64 0,.int .i64 0,.nilslice] 58 false)) ?_),g0,hb,hlg,hn⟩,by show 6-(i+1)<6-i;omega,rfl,rfl,by(refine Am.Av ?_;repeat (first|exact trivial|refine⟨rfl,?_⟩))⟩
    show(if opS w≤(i:Int)then opS w else 0)=if opS w≤((i+1:Nat):Int)then opS w else 0
    by_cases h3:opS w≤(i:Int)
    ·rw[if_pos h3,if_pos (by omega)]
    ·rw[if_neg h3,if_neg (by omega)]
  ·have e6:(if opS w≤(i:Int)then opS w else 0)=opS w:=if_pos (by omega)
   rw[e6]at g1
   focus
    refine Ab<|Es<|qm U ?_
    refine Lo (Ad U U (by kernel_rfl) U (Ac (hit_129))) rfl<|Lq (ol AI U) rfl<|Lq (o2 u_3 U U) rfl<|Ld ?_
    refine Ec U (fun g2=>?_) (fun g2=>?_)
    have h2:=dT g2
    exact absurd h2 (by omega)
    have h2:=dF g2
    refine A9<|Bq U ?_
    rotate_left
   exact⟨rfl,st,⟨g1,g0,hb,hlg,hn⟩,rfl,by(refine Am.Av ?_;repeat (first|exact trivial|refine⟨rfl,?_⟩))⟩
 ·rintro st ⟨g1,g0,hb,hlg,hn⟩
  dsimp only
  have hlog:∀ {o},(st.put 0 o).log=[]:=DP hb hlg
  have hl1:=Dq (ws:=w::ws)
  have hln:(w::ws).length=ws.length+1:=rfl
  have hsl:=slice_strs (s:=st) (w:=w) (ws:=ws)
  have hS:InsS st [.int .i64 (opS w),.int .i64 0,.nilslice,.nilslice,.int .i64 0,.int .i64 0,.nilslice]:=⟨g1,g0,hb,hlg⟩
  have hintl:=AT (l:=ws) (by omega) (fun v hv=>hw v (Qg _ hv))
  by_cases h2:opS w=1
  ·cases ws with
   |nil=>
    focus
     refine Ab<|Es<|Lq (of B1 U) rfl<|Lo (At U U (An DT DN ‹_› U)) rfl<|Ld<|Af<|Es<|Lq (o2 BB U U) U ?_
     refine qa rfl<|Ld ?_
     refine Ec U (fun g2=>?_) (fun g2=>?_)
     have h2:=dT g2
     refine Ab<|Es<|qm rfl<|Lq (ol AI U) rfl<|Lq (o2 u_3 U U) rfl<|Ld<|Ai U rfl<|Es ?_
     refine Lo (At U U (A8 Dy AP ‹_› (Qc U))) rfl<|Ak (Ar U AP U U (Aq ‹_› U U U)) U rfl<|qa rfl<|Ld ?_
     rotate_left
     have h2:=dF g2
     exact absurd h2 (by omega)
    exact Aa ⟨.inl U,rfl,hlog,hb,BW (x:= {op:=opS w,a:=0,alts:=[],to:=[],term:=0,n:=0,args:=[]}) U U (Bl.trans (if_pos U)) U (by unfold insF;rw[if_pos h2])⟩
   |cons v u=>
    have hwv:=hw v (by simp)
    have hix1:idxSliceV (0+1) 1 (strsV (w::v::u))=some (.iptr ([.str v]++u.flatMap fun w=>[AV.str w])):=Eu (l:=w::v::u) (i:=1) (by simp)
    have hsl2:=slice_strs2 (s:=st) (w:=w) (v:=v) (ws:=u)
    have hln2:(v::u).length=u.length+1:=rfl
    have halt:=hit_139 (l:=u) (by omega) (fun v hv=>hw v (by simp[hv]))
    have hiF:insF (opS w) (v::u)=({op:=opS w,a:=(intR v).1,alts:=if altsB u then u.map altF else [],to:=[],term:=0,n:=0,args:=[]},(intR v).2&&altsB u):=by unfold insF;rw[if_pos h2]
    cases hA:altsB u with
    |false=>
     have hit_139:R16 139 [strsV u]=some (.tuple [.nilslice,.bool false]):=by
      refine Eq.trans halt ?_;unfold altsV;rw[hA];rfl
     focus
      refine Ab<|Es<|Lq (of B1 U) rfl<|Lo (At U U (An DT DN ‹_› U)) rfl<|Ld<|Af<|Es<|Lq (o2 BB U U) U ?_
      refine qa rfl<|Ld ?_
      refine Ec U (fun g2=>?_) (fun g2=>?_)
      have h2:=dT g2
      refine Ab<|Es<|qm rfl<|Lq (ol AI U) rfl<|Lq (o2 u_3 U U) rfl<|Ld<|Ap U rfl<|Ae ?_
      refine Es<|qm rfl<|Lq (Ag (k:=1) U AI Bt U U ‹_›) rfl<|Lq (As U U Fg Bt) U ?_
      refine Lo (Ad U U (by kernel_rfl) U (Ac (hit_100 (by first|assumption|omega|(simp only[LL];omega))))) U ?_
      refine qm U ?_
      iterate 2 refine Lq (oe U) U ?_
      iterate 2 refine qa U ?_
      refine Ld<|Es<|qm rfl<|Lo (Bv U AI Bt U U U ‹_›) U ?_
      refine Lo (Ad U U (by kernel_rfl) U (Ac (hit_139))) rfl<|qm U ?_
      iterate 2 refine Lq (oe U) U ?_
      iterate 2 refine qa U ?_
      refine Ld<|Es ?_
      iterate 2 refine qm U ?_
      refine Lq (of DZ U) rfl<|Ak (Ar U Bf U U (Aq ‹_› U U U)) U rfl<|Lq (of D5 U) U ?_
      rotate_left
      have h2:=dF g2
      exact absurd h2 (by omega)
     have hA':=hS.store (X':=[.int .i64 (opS w),.int .i64 (intR v).1,.nilslice,.nilslice,.int .i64 0,.int .i64 0,.nilslice])
     show RegL _ _ _ _ _ _ (st.put 1 (some (.cells [.int .i64 (opS w),.int .i64 (intR v).1,.nilslice,.nilslice,.int .i64 0,.int .i64 0,.nilslice] 58 false))) _
     generalize st.put 1 (some (.cells [.int .i64 (opS w),.int .i64 (intR v).1,.nilslice,.nilslice,.int .i64 0,.int .i64 0,.nilslice] 58 false))=sA at hA'⊢
     have gA1:=hA'.g1
     refine Ak (Ar U E7 U U (Aq ‹_› U U U)) U rfl<|Ld<|Es ?_
     have hB':=hA'.store (X':=[.int .i64 (opS w),.int .i64 (intR v).1,.nilslice,.nilslice,.int .i64 0,.int .i64 0,.nilslice])
     show RegL _ _ _ _ _ _ (sA.put 1 (some (.cells [.int .i64 (opS w),.int .i64 (intR v).1,.nilslice,.nilslice,.int .i64 0,.int .i64 0,.nilslice] 58 false))) _
     generalize sA.put 1 (some (.cells [.int .i64 (opS w),.int .i64 (intR v).1,.nilslice,.nilslice,.int .i64 0,.int .i64 0,.nilslice] 58 false))=sB at hB'⊢
     have gB1:=hB'.g1
     have gB0:=hB'.g0
     focus
      refine Lo (At U U (A8 Dy AP ‹_› (Qc U))) U ?_
      iterate 2 refine qm U ?_
      refine Lb U (fun g3=>?_) (fun g3=>?_)
      refine Lh U ‹_› (om U)<|Lq (oT U ‹_› U) rfl<|Ak (Ar U AP U U (Aq ‹_› U U U)) U rfl<|qa rfl<|Ld ?_
      rotate_left
      refine Lk U ‹_›<|Lq (oF U ‹_› U) rfl<|Ak (Ar U AP U U (Aq ‹_› U U U)) U rfl<|qa rfl<|Ld ?_
      rotate_left
     all_goals exact Aa ⟨.inl rfl,rfl,DP hB'.hb hB'.hlg,hB'.hb,BW (x:= {op:=opS w,a:=(intR v).1,alts:=[],to:=[],term:=0,n:=0,args:=[]}) rfl rfl (Bl.trans (if_pos rfl)) (by rw[enc_ne (show¬opS w=5 by omega)];rfl) (by rw[hiF,hA,g3];rfl)⟩
    |true=>
     have hit_139:R16 139 [strsV u]=some (.tuple [lst encA 2 (u.map altF),.bool true]):=by
      refine Eq.trans halt ?_;unfold altsV;rw[hA];rfl
     rcases A3 encA 2 (u.map altF)with ev|⟨cs,n,ev⟩
     ·rw[ev]at hit_139
      focus
       refine Ab<|Es<|Lq (of B1 U) rfl<|Lo (At U U (An DT DN ‹_› U)) rfl<|Ld<|Af<|Es<|Lq (o2 BB U U) U ?_
       refine qa rfl<|Ld ?_
       refine Ec U (fun g2=>?_) (fun g2=>?_)
       have h2:=dT g2
       refine Ab<|Es<|qm rfl<|Lq (ol AI U) rfl<|Lq (o2 u_3 U U) rfl<|Ld<|Ap U rfl<|Ae ?_
       refine Es<|qm rfl<|Lq (Ag (k:=1) U AI Bt U U ‹_›) rfl<|Lq (As U U Fg Bt) U ?_
       refine Lo (Ad U U (by kernel_rfl) U (Ac (hit_100 (by first|assumption|omega|(simp only[LL];omega))))) U ?_
       refine qm U ?_
       iterate 2 refine Lq (oe U) U ?_
       iterate 2 refine qa U ?_
       refine Ld<|Es<|qm rfl<|Lo (Bv U AI Bt U U U ‹_›) U ?_
       refine Lo (Ad U U (by kernel_rfl) U (Ac (hit_139))) rfl<|qm U ?_
       iterate 2 refine Lq (oe U) U ?_
       iterate 2 refine qa U ?_
       refine Ld<|Es ?_
       iterate 2 refine qm U ?_
       refine Lq (of DZ U) rfl<|Ak (Ar U Bf U U (Aq ‹_› U U U)) U rfl<|Lq (of D5 U) U ?_
       rotate_left
       have h2:=dF g2
       exact absurd h2 (by omega)
      have hA':=hS.store (X':=[.int .i64 (opS w),.int .i64 (intR v).1,.nilslice,.nilslice,.int .i64 0,.int .i64 0,.nilslice])
      show RegL _ _ _ _ _ _ (st.put 1 (some (.cells [.int .i64 (opS w),.int .i64 (intR v).1,.nilslice,.nilslice,.int .i64 0,.int .i64 0,.nilslice] 58 false))) _
      generalize st.put 1 (some (.cells [.int .i64 (opS w),.int .i64 (intR v).1,.nilslice,.nilslice,.int .i64 0,.int .i64 0,.nilslice] 58 false))=sA at hA'⊢
      have gA1:=hA'.g1
      refine Ak (Ar U E7 U U (Aq ‹_› U U U)) U rfl<|Ld<|Es ?_
      have hB':=hA'.store (X':=[.int .i64 (opS w),.int .i64 (intR v).1,.nilslice,.nilslice,.int .i64 0,.int .i64 0,.nilslice])
      show RegL _ _ _ _ _ _ (sA.put 1 (some (.cells [.int .i64 (opS w),.int .i64 (intR v).1,.nilslice,.nilslice,.int .i64 0,.int .i64 0,.nilslice] 58 false))) _
      generalize sA.put 1 (some (.cells [.int .i64 (opS w),.int .i64 (intR v).1,.nilslice,.nilslice,.int .i64 0,.int .i64 0,.nilslice] 58 false))=sB at hB'⊢
      have gB1:=hB'.g1
      have gB0:=hB'.g0
      focus
       refine Lo (At U U (A8 Dy AP ‹_› (Qc U))) U ?_
       iterate 2 refine qm U ?_
       refine Lb U (fun g3=>?_) (fun g3=>?_)
       refine Lh U ‹_› (om U)<|Lq (oT U ‹_› U) rfl<|Ak (Ar U AP U U (Aq ‹_› U U U)) U rfl<|qa rfl<|Ld ?_
       rotate_left
       refine Lk U ‹_›<|Lq (oF U ‹_› U) rfl<|Ak (Ar U AP U U (Aq ‹_› U U U)) U rfl<|qa rfl<|Ld ?_
       rotate_left
      all_goals exact Aa ⟨.inl rfl,rfl,DP hB'.hb hB'.hlg,hB'.hb,BW (x:= {op:=opS w,a:=(intR v).1,alts:=u.map altF,to:=[],term:=0,n:=0,args:=[]}) rfl rfl (Bl.trans (if_pos rfl)) (by rw[enc_ne (show¬opS w=5 by omega)];unfold encIR;dsimp only;rw[ev]<;>rfl) (by rw[hiF,hA,g3];rfl)⟩
     ·rw[ev]at hit_139
      focus
       refine Ab<|Es<|Lq (of B1 U) rfl<|Lo (At U U (An DT DN ‹_› U)) rfl<|Ld<|Af<|Es<|Lq (o2 BB U U) U ?_
       refine qa rfl<|Ld ?_
       refine Ec U (fun g2=>?_) (fun g2=>?_)
       have h2:=dT g2
       refine Ab<|Es<|qm rfl<|Lq (ol AI U) rfl<|Lq (o2 u_3 U U) rfl<|Ld<|Ap U rfl<|Ae ?_
       refine Es<|qm rfl<|Lq (Ag (k:=1) U AI Bt U U ‹_›) rfl<|Lq (As U U Fg Bt) U ?_
       refine Lo (Ad U U (by kernel_rfl) U (Ac (hit_100 (by first|assumption|omega|(simp only[LL];omega))))) U ?_
       refine qm U ?_
       iterate 2 refine Lq (oe U) U ?_
       iterate 2 refine qa U ?_
       refine Ld<|Es<|qm rfl<|Lo (Bv U AI Bt U U U ‹_›) U ?_
       refine Lo (Ad U U (by kernel_rfl) U (Ac (hit_139))) rfl<|qm U ?_
       iterate 2 refine Lq (oe U) U ?_
       iterate 2 refine qa U ?_
       refine Ld<|Es ?_
       iterate 2 refine qm U ?_
       refine Lq (of DZ U) rfl<|Ak (Ar U Bf U U (Aq ‹_› U U U)) U rfl<|Lq (of D5 U) U ?_
       rotate_left
       have h2:=dF g2
       exact absurd h2 (by omega)
      have hA':=hS.store (X':=[.int .i64 (opS w),.int .i64 (intR v).1,.nilslice,.nilslice,.int .i64 0,.int .i64 0,.nilslice])
      show RegL _ _ _ _ _ _ (st.put 1 (some (.cells [.int .i64 (opS w),.int .i64 (intR v).1,.nilslice,.nilslice,.int .i64 0,.int .i64 0,.nilslice] 58 false))) _
      generalize st.put 1 (some (.cells [.int .i64 (opS w),.int .i64 (intR v).1,.nilslice,.nilslice,.int .i64 0,.int .i64 0,.nilslice] 58 false))=sA at hA'⊢
      have gA1:=hA'.g1
      refine Ak (Ar U E7 U U (Aq ‹_› U U U)) U rfl<|Ld<|Es ?_
      have hB':=hA'.store (X':=[.int .i64 (opS w),.int .i64 (intR v).1,(.islice cs n 2 true),.nilslice,.int .i64 0,.int .i64 0,.nilslice])
      show RegL _ _ _ _ _ _ (sA.put 1 (some (.cells [.int .i64 (opS w),.int .i64 (intR v).1,(.islice cs n 2 true),.nilslice,.int .i64 0,.int .i64 0,.nilslice] 58 false))) _
      generalize sA.put 1 (some (.cells [.int .i64 (opS w),.int .i64 (intR v).1,(.islice cs n 2 true),.nilslice,.int .i64 0,.int .i64 0,.nilslice] 58 false))=sB at hB'⊢
      have gB1:=hB'.g1
      have gB0:=hB'.g0
      focus
       refine Lo (At U U (A8 Dy AP ‹_› (Qc U))) U ?_
       iterate 2 refine qm U ?_
       refine Lb U (fun g3=>?_) (fun g3=>?_)
       refine Lh U ‹_› (om U)<|Lq (oT U ‹_› U) rfl<|Ak (Ar U AP U U (Aq ‹_› U U U)) U rfl<|qa rfl<|Ld ?_
       rotate_left
       refine Lk U ‹_›<|Lq (oF U ‹_› U) rfl<|Ak (Ar U AP U U (Aq ‹_› U U U)) U rfl<|qa rfl<|Ld ?_
       rotate_left
      all_goals exact Aa ⟨.inl rfl,rfl,DP hB'.hb hB'.hlg,hB'.hb,BW (x:= {op:=opS w,a:=(intR v).1,alts:=u.map altF,to:=[],term:=0,n:=0,args:=[]}) rfl rfl (Bl.trans (if_pos rfl)) (by rw[enc_ne (show¬opS w=5 by omega)];unfold encIR;dsimp only;rw[ev]<;>rfl) (by rw[hiF,hA,g3];rfl)⟩
  by_cases h3:opS w=2
  ·have hiF:insF (opS w) ws=({op:=opS w,a:=0,alts:=[],to:=if intsB ws then ws.map fun w=>(intR w).1 else [],term:=0,n:=0,args:=[]},intsB ws):=by unfold insF;rw[if_neg h2,if_pos h3]
   cases hB:intsB ws with
   |false=>
    have AT:R16 102 [strsV ws]=some (.tuple [.nilslice,.bool false]):=by
     refine Eq.trans hintl ?_;unfold intsV;rw[hB];rfl
    focus
     refine Ab<|Es<|Lq (of B1 U) rfl<|Lo (At U U (An DT DN ‹_› U)) rfl<|Ld<|Af<|Es<|Lq (o2 BB U U) U ?_
     refine qa rfl<|Ld ?_
     refine Ec U (fun g2=>?_) (fun g2=>?_)
     have h2:=dT g2
     exact absurd h2 (by omega)
     have h2:=dF g2
     refine Es<|Lq (o2 BB U U) rfl<|qa rfl<|Ld ?_
     refine Ec U (fun g3=>?_) (fun g3=>?_)
     have h3:=dT g3
     refine Es<|qm rfl<|Lo (Bv U AI Bt U U U ‹_›) U ?_
     refine Lo (Ad U U (by kernel_rfl) U (Ac (AT))) rfl<|qm U ?_
     iterate 2 refine Lq (oe U) U ?_
     iterate 2 refine qa U ?_
     refine Ld<|Es<|qm rfl<|Lq (of Em U) rfl<|Ak (Ar U BC U U (Aq ‹_› U U U)) U rfl<|Ld<|Es ?_
     rotate_left
     have h3:=dF g3
     exact absurd h3 (by omega)
    have hA':=hS.store (X':=[.int .i64 (opS w),.int .i64 0,.nilslice,.nilslice,.int .i64 0,.int .i64 0,.nilslice])
    show RegL _ _ _ _ _ _ (st.put 1 (some (.cells [.int .i64 (opS w),.int .i64 0,.nilslice,.nilslice,.int .i64 0,.int .i64 0,.nilslice] 58 false))) _
    generalize st.put 1 (some (.cells [.int .i64 (opS w),.int .i64 0,.nilslice,.nilslice,.int .i64 0,.int .i64 0,.nilslice] 58 false))=sA at hA'⊢
    have g1sA:=hA'.g1
    have g0sA:=hA'.g0
    refine Lo (At U U (A8 Dy AP ‹_› (Qc U))) rfl<|qm rfl<|Ak (Ar U AP U U (Aq ‹_› U U U)) U rfl<|qa rfl<|Ld ?_
    exact Aa ⟨.inl U,rfl,DP hA'.hb hA'.hlg,hA'.hb,BW (x:= {op:=opS w,a:=0,alts:=[],to:=[],term:=0,n:=0,args:=[]}) U U (Bl.trans (if_pos U)) (by rw[enc_ne (show¬opS w=5 by omega)];rfl) (by rw[hiF,hB];rfl)⟩
   |true=>
    have AT:R16 102 [strsV ws]=some (.tuple [lst encZ 1 (ws.map fun w=>(intR w).1),.bool true]):=by
     refine Eq.trans hintl ?_;unfold intsV;rw[hB];rfl
    rcases A3 encZ 1 (ws.map fun w=>(intR w).1)with ev|⟨cs,n,ev⟩
    ·rw[ev]at AT
     focus
      refine Ab<|Es<|Lq (of B1 U) rfl<|Lo (At U U (An DT DN ‹_› U)) rfl<|Ld<|Af<|Es<|Lq (o2 BB U U) U ?_
      refine qa rfl<|Ld ?_
      refine Ec U (fun g2=>?_) (fun g2=>?_)
      have h2:=dT g2
      exact absurd h2 (by omega)
      have h2:=dF g2
      refine Es<|Lq (o2 BB U U) rfl<|qa rfl<|Ld ?_
      refine Ec U (fun g3=>?_) (fun g3=>?_)
      have h3:=dT g3
      refine Es<|qm rfl<|Lo (Bv U AI Bt U U U ‹_›) U ?_
      refine Lo (Ad U U (by kernel_rfl) U (Ac (AT))) rfl<|qm U ?_
      iterate 2 refine Lq (oe U) U ?_
      iterate 2 refine qa U ?_
      refine Ld<|Es<|qm rfl<|Lq (of Em U) rfl<|Ak (Ar U BC U U (Aq ‹_› U U U)) U rfl<|Ld<|Es ?_
      rotate_left
      have h3:=dF g3
      exact absurd h3 (by omega)
     have hA':=hS.store (X':=[.int .i64 (opS w),.int .i64 0,.nilslice,.nilslice,.int .i64 0,.int .i64 0,.nilslice])
     show RegL _ _ _ _ _ _ (st.put 1 (some (.cells [.int .i64 (opS w),.int .i64 0,.nilslice,.nilslice,.int .i64 0,.int .i64 0,.nilslice] 58 false))) _
     generalize st.put 1 (some (.cells [.int .i64 (opS w),.int .i64 0,.nilslice,.nilslice,.int .i64 0,.int .i64 0,.nilslice] 58 false))=sA at hA'⊢
     have g1sA:=hA'.g1
     have g0sA:=hA'.g0
     refine Lo (At U U (A8 Dy AP ‹_› (Qc U))) rfl<|qm rfl<|Ak (Ar U AP U U (Aq ‹_› U U U)) U rfl<|qa rfl<|Ld ?_
     exact Aa ⟨.inl U,rfl,DP hA'.hb hA'.hlg,hA'.hb,BW (x:= {op:=opS w,a:=0,alts:=[],to:=ws.map fun w=>(intR w).1,term:=0,n:=0,args:=[]}) U U (Bl.trans (if_pos U)) (by rw[enc_ne (show¬opS w=5 by omega)];unfold encIR;dsimp only;rw[ev]<;>rfl) (by rw[hiF,hB];rfl)⟩
    ·rw[ev]at AT
     focus
      refine Ab<|Es<|Lq (of B1 U) rfl<|Lo (At U U (An DT DN ‹_› U)) rfl<|Ld<|Af<|Es<|Lq (o2 BB U U) U ?_
      refine qa rfl<|Ld ?_
      refine Ec U (fun g2=>?_) (fun g2=>?_)
      have h2:=dT g2
      exact absurd h2 (by omega)
      have h2:=dF g2
      refine Es<|Lq (o2 BB U U) rfl<|qa rfl<|Ld ?_
      refine Ec U (fun g3=>?_) (fun g3=>?_)
      have h3:=dT g3
      refine Es<|qm rfl<|Lo (Bv U AI Bt U U U ‹_›) U ?_
      refine Lo (Ad U U (by kernel_rfl) U (Ac (AT))) rfl<|qm U ?_
      iterate 2 refine Lq (oe U) U ?_
      iterate 2 refine qa U ?_
      refine Ld<|Es<|qm rfl<|Lq (of Em U) rfl<|Ak (Ar U BC U U (Aq ‹_› U U U)) U rfl<|Ld<|Es ?_
      rotate_left
      have h3:=dF g3
      exact absurd h3 (by omega)
     have hA':=hS.store (X':=[.int .i64 (opS w),.int .i64 0,.nilslice,(.islice cs n 1 true),.int .i64 0,.int .i64 0,.nilslice])
     show RegL _ _ _ _ _ _ (st.put 1 (some (.cells [.int .i64 (opS w),.int .i64 0,.nilslice,(.islice cs n 1 true),.int .i64 0,.int .i64 0,.nilslice] 58 false))) _
     generalize st.put 1 (some (.cells [.int .i64 (opS w),.int .i64 0,.nilslice,(.islice cs n 1 true),.int .i64 0,.int .i64 0,.nilslice] 58 false))=sA at hA'⊢
     have g1sA:=hA'.g1
     have g0sA:=hA'.g0
     refine Lo (At U U (A8 Dy AP ‹_› (Qc U))) rfl<|qm rfl<|Ak (Ar U AP U U (Aq ‹_› U U U)) U rfl<|qa rfl<|Ld ?_
     exact Aa ⟨.inl U,rfl,DP hA'.hb hA'.hlg,hA'.hb,BW (x:= {op:=opS w,a:=0,alts:=[],to:=ws.map fun w=>(intR w).1,term:=0,n:=0,args:=[]}) U U (Bl.trans (if_pos U)) (by rw[enc_ne (show¬opS w=5 by omega)];unfold encIR;dsimp only;rw[ev]<;>rfl) (by rw[hiF,hB];rfl)⟩
  by_cases h4:opS w=3
  ·focus
    refine Ab<|Es<|Lq (of B1 U) rfl<|Lo (At U U (An DT DN ‹_› U)) rfl<|Ld<|Af<|Es<|Lq (o2 BB U U) U ?_
    refine qa rfl<|Ld ?_
    refine Ec U (fun g2=>?_) (fun g2=>?_)
    have h2:=dT g2
    exact absurd h2 (by omega)
    have h2:=dF g2
    refine Es<|Lq (o2 BB U U) rfl<|qa rfl<|Ld ?_
    refine Ec U (fun g3=>?_) (fun g3=>?_)
    have h3:=dT g3
    exact absurd h3 (by omega)
    have h3:=dF g3
    refine Ab<|Es<|Lq (o2 BB U U) rfl<|qa rfl<|Ld ?_
    refine Ec U (fun g4=>?_) (fun g4=>?_)
    have h4:=dT g4
    refine Ae<|Ai U ‹_›<|Es<|Lo (At U U (A8 Dy AP ‹_› (Qc U))) rfl<|qm rfl<|Lq (ol AI U) rfl<|Lq (o2 u_3 U U) rfl<|Ak (Ar U AP U U (Aq ‹_› U U U)) U U ?_
    refine qa rfl<|Ld ?_
    rotate_left
    have h4:=dF g4
    exact absurd h4 (by omega)
   exact Aa ⟨.inl U,rfl,hlog,hb,BW (x:= {op:=opS w,a:=0,alts:=[],to:=[],term:=0,n:=0,args:=[]}) U U (Bl.trans (if_pos U)) (by rw[enc_ne (show¬opS w=5 by omega)];rfl) (by unfold insF;rw[if_neg h2,if_neg h3,if_pos (.inl h4),dec_one (w:=w)])⟩
  by_cases h5:opS w=4
  ·focus
    refine Ab<|Es<|Lq (of B1 U) rfl<|Lo (At U U (An DT DN ‹_› U)) rfl<|Ld<|Af<|Es<|Lq (o2 BB U U) U ?_
    refine qa rfl<|Ld ?_
    refine Ec U (fun g2=>?_) (fun g2=>?_)
    have h2:=dT g2
    exact absurd h2 (by omega)
    have h2:=dF g2
    refine Es<|Lq (o2 BB U U) rfl<|qa rfl<|Ld ?_
    refine Ec U (fun g3=>?_) (fun g3=>?_)
    have h3:=dT g3
    exact absurd h3 (by omega)
    have h3:=dF g3
    refine Ab<|Es<|Lq (o2 BB U U) rfl<|qa rfl<|Ld ?_
    refine Ec U (fun g4=>?_) (fun g4=>?_)
    have h4:=dT g4
    exact absurd h4 (by omega)
    have h4:=dF g4
    refine Ao<|Lq (o2 BB U U) rfl<|qa rfl<|Ld ?_
    refine Ec U (fun g5=>?_) (fun g5=>?_)
    have h5:=dT g5
    refine Es<|Lo (At U U (A8 Dy AP ‹_› (Qc U))) rfl<|qm rfl<|Lq (ol AI U) rfl<|Lq (o2 u_3 U U) rfl<|Ak (Ar U AP U U (Aq ‹_› U U U)) U rfl<|qa rfl<|Ld ?_
    rotate_left
    have h5:=dF g5
    exact absurd h5 (by omega)
   exact Aa ⟨.inl U,rfl,hlog,hb,BW (x:= {op:=opS w,a:=0,alts:=[],to:=[],term:=0,n:=0,args:=[]}) U U (Bl.trans (if_pos U)) (by rw[enc_ne (show¬opS w=5 by omega)];rfl) (by unfold insF;rw[if_neg h2,if_neg h3,if_pos (.inr h5),dec_one (w:=w)])⟩
  have h45:¬(opS w=3∨opS w=4):=by omega
  by_cases h6:opS w=5
  ·cases hB:intsB ws with
   |false=>
    have AT:R16 102 [strsV ws]=some (.tuple [.nilslice,.bool false]):=by
     refine Eq.trans hintl ?_;unfold intsV;rw[hB];rfl
    focus
     refine Ab<|Es<|Lq (of B1 U) rfl<|Lo (At U U (An DT DN ‹_› U)) rfl<|Ld<|Af<|Es<|Lq (o2 BB U U) U ?_
     refine qa rfl<|Ld ?_
     refine Ec U (fun g2=>?_) (fun g2=>?_)
     have h2:=dT g2
     exact absurd h2 (by omega)
     have h2:=dF g2
     refine Es<|Lq (o2 BB U U) rfl<|qa rfl<|Ld ?_
     refine Ec U (fun g3=>?_) (fun g3=>?_)
     have h3:=dT g3
     exact absurd h3 (by omega)
     have h3:=dF g3
     refine Ab<|Es<|Lq (o2 BB U U) rfl<|qa rfl<|Ld ?_
     refine Ec U (fun g4=>?_) (fun g4=>?_)
     have h4:=dT g4
     exact absurd h4 (by omega)
     have h4:=dF g4
     refine Ao<|Lq (o2 BB U U) rfl<|qa rfl<|Ld ?_
     refine Ec U (fun g5=>?_) (fun g5=>?_)
     have h5:=dT g5
     exact absurd h5 (by omega)
     have h5:=dF g5
     refine Es<|Lq (o2 BB U U) rfl<|qa rfl<|Ld ?_
     refine Ec U (fun g6=>?_) (fun g6=>?_)
     have h6:=dT g6
     refine Es<|qm rfl<|Lo (Bv U AI Bt U U U ‹_›) U ?_
     refine Lo (Ad U U (by kernel_rfl) U (Ac (AT))) rfl<|qm U ?_
     iterate 2 refine Lq (oe U) U ?_
     iterate 2 refine qa U ?_
     refine Ld<|Ab<|Es<|qm rfl<|Lq (on U) rfl<|qm U ?_
     iterate 3 refine Lk U U ?_
     refine Lq (oT U U U) rfl<|Ld<|Ai U rfl<|Es<|Lo (At U U (A8 Dy AP ‹_› (Qc U))) rfl<|Ak (Ar U AP U U (Aq ‹_› U U U)) U rfl<|qa rfl<|Ld ?_
     rotate_left
     have h6:=dF g6
     exact absurd h6 (by omega)
    exact Aa ⟨.inl U,rfl,hlog,hb,BW (x:= {op:=opS w,a:=0,alts:=[],to:=[],term:=0,n:=0,args:=[]}) (b:=false) U U (Bl.trans (if_pos U)) U (insF5_no h6 (.inl hB))⟩
   |true=>
    cases ws with
    |nil=>
     have AT:R16 102 [strsV []]=some (.tuple [.nilslice,.bool true]):=by
      refine Eq.trans hintl ?_;rfl
     focus
      refine Ab<|Es<|Lq (of B1 U) rfl<|Lo (At U U (An DT DN ‹_› U)) rfl<|Ld<|Af<|Es<|Lq (o2 BB U U) U ?_
      refine qa rfl<|Ld ?_
      refine Ec U (fun g2=>?_) (fun g2=>?_)
      have h2:=dT g2
      exact absurd h2 (by omega)
      have h2:=dF g2
      refine Es<|Lq (o2 BB U U) rfl<|qa rfl<|Ld ?_
      refine Ec U (fun g3=>?_) (fun g3=>?_)
      have h3:=dT g3
      exact absurd h3 (by omega)
      have h3:=dF g3
      refine Ab<|Es<|Lq (o2 BB U U) rfl<|qa rfl<|Ld ?_
      refine Ec U (fun g4=>?_) (fun g4=>?_)
      have h4:=dT g4
      exact absurd h4 (by omega)
      have h4:=dF g4
      refine Ao<|Lq (o2 BB U U) rfl<|qa rfl<|Ld ?_
      refine Ec U (fun g5=>?_) (fun g5=>?_)
      have h5:=dT g5
      exact absurd h5 (by omega)
      have h5:=dF g5
      refine Es<|Lq (o2 BB U U) rfl<|qa rfl<|Ld ?_
      refine Ec U (fun g6=>?_) (fun g6=>?_)
      have h6:=dT g6
      refine Es<|qm rfl<|Lq (Ef U AI Bt U U U U (AL (n:=1) (by omega)) (Qc U)) U ?_
      refine Lo (Ad U U (by kernel_rfl) U (Ac (AT))) rfl<|qm U ?_
      iterate 2 refine Lq (oe U) U ?_
      iterate 2 refine qa U ?_
      refine Ld<|Ab<|Es<|qm rfl<|Lq (on U) rfl<|qm rfl<|Lh U U (om U)<|Lh U U (OpQ.lenNil U U U U D6 U) ?_
      refine Lh U U (o2 u_3 U U)<|Lq (oF U U U) rfl<|Ld<|Ai U rfl<|Es<|Lo (At U U (A8 Dy AP ‹_› (Qc U))) rfl<|Ak (Ar U AP U U (Aq ‹_› U U U)) U rfl<|qa U ?_
      refine Ld ?_
      rotate_left
      have h6:=dF g6
      exact absurd h6 (by omega)
     exact Aa ⟨.inl U,rfl,hlog,hb,BW (x:= {op:=opS w,a:=0,alts:=[],to:=[],term:=0,n:=0,args:=[]}) (b:=false) U U (Bl.trans (if_pos U)) U (insF5_no h6 (.inr (by simp)))⟩
    |cons a ws=>
    cases ws with
    |nil=>
     have AT:R16 102 [strsV [a]]=some (.tuple [.islice [.int .i64 (intR a).1] 1 1 true,.bool true]):=by
      refine Eq.trans hintl ?_;unfold intsV;rw[hB];rfl
     focus
      refine Ab<|Es<|Lq (of B1 U) rfl<|Lo (At U U (An DT DN ‹_› U)) rfl<|Ld<|Af<|Es<|Lq (o2 BB U U) U ?_
      refine qa rfl<|Ld ?_
      refine Ec U (fun g2=>?_) (fun g2=>?_)
      have h2:=dT g2
      exact absurd h2 (by omega)
      have h2:=dF g2
      refine Es<|Lq (o2 BB U U) rfl<|qa rfl<|Ld ?_
      refine Ec U (fun g3=>?_) (fun g3=>?_)
      have h3:=dT g3
      exact absurd h3 (by omega)
      have h3:=dF g3
      refine Ab<|Es<|Lq (o2 BB U U) rfl<|qa rfl<|Ld ?_
      refine Ec U (fun g4=>?_) (fun g4=>?_)
      have h4:=dT g4
      exact absurd h4 (by omega)
      have h4:=dF g4
      refine Ao<|Lq (o2 BB U U) rfl<|qa rfl<|Ld ?_
      refine Ec U (fun g5=>?_) (fun g5=>?_)
      have h5:=dT g5
      exact absurd h5 (by omega)
      have h5:=dF g5
      refine Es<|Lq (o2 BB U U) rfl<|qa rfl<|Ld ?_
      refine Ec U (fun g6=>?_) (fun g6=>?_)
      have h6:=dT g6
      refine Es<|qm rfl<|Lq (Ef U AI Bt U U U U (AL (n:=1) (by omega)) (Qc U)) U ?_
      refine Lo (Ad U U (by kernel_rfl) U (Ac (AT))) rfl<|qm U ?_
      iterate 2 refine Lq (oe U) U ?_
      iterate 2 refine qa U ?_
      refine Ld<|Ab<|Es<|qm rfl<|Lq (on U) rfl<|qm rfl<|Lh U U (om U)<|Lh U U (ol D6 U) ?_
      refine Lh U U (o2 u_3 U U)<|Lq (oF U U U) rfl<|Ld<|Ai U rfl<|Es<|Lo (At U U (A8 Dy AP ‹_› (Qc U))) rfl<|Ak (Ar U AP U U (Aq ‹_› U U U)) U rfl<|qa U ?_
      refine Ld ?_
      rotate_left
      have h6:=dF g6
      exact absurd h6 (by omega)
     exact Aa ⟨.inl U,rfl,hlog,hb,BW (x:= {op:=opS w,a:=0,alts:=[],to:=[],term:=0,n:=0,args:=[]}) (b:=false) U U (Bl.trans (if_pos U)) U (insF5_no h6 (.inr (by simp)))⟩
    |cons b u=>
     have AT:R16 102 [strsV (a::b::u)]=some (.tuple [recs encZ 1 ((intR a).1::(intR b).1::u.map fun w=>(intR w).1),.bool true]):=by
      refine Eq.trans hintl ?_;unfold intsV;rw[hB];rfl
     have q0:=AC (l:=(intR a).1::(intR b).1::u.map fun w=>(intR w).1) (i:=0) Be (by simp)
     have q1:=AC (l:=(intR a).1::(intR b).1::u.map fun w=>(intR w).1) (i:=1) Be (by simp)
     have q2:=slice_z2 (s:=st) (a:=(intR a).1) (b:=(intR b).1) (r:=u.map fun w=>(intR w).1)
     have q3:lenSl (recs encZ 1 ((intR a).1::(intR b).1::u.map fun w=>(intR w).1))=some (.int .i64 ((u.length+1+1:Nat):Int)):=by
      show some (AV.int .i64 (((u.map fun w=>(intR w).1).length+1+1:Nat):Int))=_
      rw[List.length_map]
     focus
      refine Ab<|Es<|Lq (of B1 U) rfl<|Lo (At U U (An DT DN ‹_› U)) rfl<|Ld<|Af<|Es<|Lq (o2 BB U U) U ?_
      refine qa rfl<|Ld ?_
      refine Ec U (fun g2=>?_) (fun g2=>?_)
      have h2:=dT g2
      exact absurd h2 (by omega)
      have h2:=dF g2
      refine Es<|Lq (o2 BB U U) rfl<|qa rfl<|Ld ?_
      refine Ec U (fun g3=>?_) (fun g3=>?_)
      have h3:=dT g3
      exact absurd h3 (by omega)
      have h3:=dF g3
      refine Ab<|Es<|Lq (o2 BB U U) rfl<|qa rfl<|Ld ?_
      refine Ec U (fun g4=>?_) (fun g4=>?_)
      have h4:=dT g4
      exact absurd h4 (by omega)
      have h4:=dF g4
      refine Ao<|Lq (o2 BB U U) rfl<|qa rfl<|Ld ?_
      refine Ec U (fun g5=>?_) (fun g5=>?_)
      have h5:=dT g5
      exact absurd h5 (by omega)
      have h5:=dF g5
      refine Es<|Lq (o2 BB U U) rfl<|qa rfl<|Ld ?_
      refine Ec U (fun g6=>?_) (fun g6=>?_)
      have h6:=dT g6
      refine Es<|qm rfl<|Lo (Bv U AI Bt U U U ‹_›) U ?_
      refine Lo (Ad U U (by kernel_rfl) U (Ac (AT))) rfl<|qm U ?_
      iterate 2 refine Lq (oe U) U ?_
      iterate 2 refine qa U ?_
      refine Ld<|Ab<|Es<|qm rfl<|Lq (on U) rfl<|qm rfl<|Lh U U (om U)<|Lh U U (ol D6 U) ?_
      refine Lh U U (o2 u_3 U U)<|Lq (oF U U U) rfl<|Ld<|Ap U rfl<|Ae<|AK (by kernel_rfl)<|Nq (om U) rfl<|Nq (Ag (k:=0) U D6 Bf U U ‹_›) U ?_
      refine Nq (As U U B3 Bf) rfl<|Nq (om U) rfl<|Nq (Ag (k:=1) U D6 Bf U U ‹_›) rfl<|Nq (As U U B3 Bf) rfl<|Nq (om U) U ?_
      rotate_left
      have h6:=dF g6
      exact absurd h6 (by omega)
     all_goals try (exfalso;omega)
     refine RegN.q (sliceZ (a:=(intR a).1) (b:=(intR b).1) (r:=u.map fun w=>(intR w).1) U D6 Bf U U U) U U rfl<|Nq (of f_58_4 U) U ?_
     refine By (by rw[hn];decide) U (by kernel_rfl) U U hS.g1 U U U U (by kernel_rfl) (.inl U) U U ?_
     have hA':=hS.storeB (X':=[.int .i64 (opS w),.int .i64 0,.nilslice,.nilslice,.int .i64 (intR a).1,.int .i64 0,.nilslice])
     have nsA:(putB st 1 (some (.cells [.int .i64 (opS w),.int .i64 0,.nilslice,.nilslice,.int .i64 (intR a).1,.int .i64 0,.nilslice] 58 false))).next=2:=hn
     show RegN _ _ _ _ _ _ _ (putB st 1 (some (.cells [.int .i64 (opS w),.int .i64 0,.nilslice,.nilslice,.int .i64 (intR a).1,.int .i64 0,.nilslice] 58 false))) _ _ _
     generalize putB st 1 (some (.cells [.int .i64 (opS w),.int .i64 0,.nilslice,.nilslice,.int .i64 (intR a).1,.int .i64 0,.nilslice] 58 false))=sA at hA' nsA⊢
     refine Nq (of BY U) U ?_
     refine By (by rw[nsA];decide) U (by kernel_rfl) U U hA'.g1 U U U U (by kernel_rfl) (.inl U) U U ?_
     have hB':=hA'.storeB (X':=[.int .i64 (opS w),.int .i64 0,.nilslice,.nilslice,.int .i64 (intR a).1,.int .i64 (intR b).1,.nilslice])
     have nsB:(putB sA 1 (some (.cells [.int .i64 (opS w),.int .i64 0,.nilslice,.nilslice,.int .i64 (intR a).1,.int .i64 (intR b).1,.nilslice] 58 false))).next=2:=nsA
     show RegN _ _ _ _ _ _ _ (putB sA 1 (some (.cells [.int .i64 (opS w),.int .i64 0,.nilslice,.nilslice,.int .i64 (intR a).1,.int .i64 (intR b).1,.nilslice] 58 false))) _ _ _
     generalize putB sA 1 (some (.cells [.int .i64 (opS w),.int .i64 0,.nilslice,.nilslice,.int .i64 (intR a).1,.int .i64 (intR b).1,.nilslice] 58 false))=sB at hB' nsB⊢
     refine Nq (of f_58_6 U) U ?_
     refine By (by rw[nsB];decide) U (by kernel_rfl) U U hB'.g1 U U U U (by kernel_rfl) (.inl U) U U ?_
     have hC':=hB'.storeB (X':=[.int .i64 (opS w),.int .i64 0,.nilslice,.nilslice,.int .i64 (intR a).1,.int .i64 (intR b).1,recs encZ 1 (u.map fun w=>(intR w).1)])
     have nsC:(putB sB 1 (some (.cells [.int .i64 (opS w),.int .i64 0,.nilslice,.nilslice,.int .i64 (intR a).1,.int .i64 (intR b).1,recs encZ 1 (u.map fun w=>(intR w).1)] 58 false))).next=2:=nsB
     show RegN _ _ _ _ _ _ _ (putB sB 1 (some (.cells [.int .i64 (opS w),.int .i64 0,.nilslice,.nilslice,.int .i64 (intR a).1,.int .i64 (intR b).1,recs encZ 1 (u.map fun w=>(intR w).1)] 58 false))) _ _ _
     generalize putB sB 1 (some (.cells [.int .i64 (opS w),.int .i64 0,.nilslice,.nilslice,.int .i64 (intR a).1,.int .i64 (intR b).1,recs encZ 1 (u.map fun w=>(intR w).1)] 58 false))=sC at hC' nsC⊢
     have g1sC:=hC'.g1
     have g0sC:=hC'.g0
     refine AG<|Es<|Lo (At U U (A8 Dy AP ‹_› (Qc U))) rfl<|Ak (Ar U AP U U (Aq ‹_› U U U)) U rfl<|qa rfl<|Ld ?_
     exact Aa ⟨.inl U,rfl,DP hC'.hb hC'.hlg,hC'.hb,BW (x:= {op:=opS w,a:=0,alts:=[],to:=[],term:=(intR a).1,n:=(intR b).1,args:=u.map fun w=>(intR w).1}) U U (Bl.trans (if_pos U)) (by rw[if_pos rfl];unfold encIF;rw[if_pos (by exact h6)];rfl) (insF5_yes h6 hB)⟩
  by_cases h7:opS w=6
  ·cases hB:intsB ws with
   |false=>
    have AT:R16 102 [strsV ws]=some (.tuple [.nilslice,.bool false]):=by
     refine Eq.trans hintl ?_;unfold intsV;rw[hB];rfl
    focus
     refine Ab<|Es<|Lq (of B1 U) rfl<|Lo (At U U (An DT DN ‹_› U)) rfl<|Ld<|Af<|Es<|Lq (o2 BB U U) U ?_
     refine qa rfl<|Ld ?_
     refine Ec U (fun g2=>?_) (fun g2=>?_)
     have h2:=dT g2
     exact absurd h2 (by omega)
     have h2:=dF g2
     refine Es<|Lq (o2 BB U U) rfl<|qa rfl<|Ld ?_
     refine Ec U (fun g3=>?_) (fun g3=>?_)
     have h3:=dT g3
     exact absurd h3 (by omega)
     have h3:=dF g3
     refine Ab<|Es<|Lq (o2 BB U U) rfl<|qa rfl<|Ld ?_
     refine Ec U (fun g4=>?_) (fun g4=>?_)
     have h4:=dT g4
     exact absurd h4 (by omega)
     have h4:=dF g4
     refine Ao<|Lq (o2 BB U U) rfl<|qa rfl<|Ld ?_
     refine Ec U (fun g5=>?_) (fun g5=>?_)
     have h5:=dT g5
     exact absurd h5 (by omega)
     have h5:=dF g5
     refine Es<|Lq (o2 BB U U) rfl<|qa rfl<|Ld ?_
     refine Ec U (fun g6=>?_) (fun g6=>?_)
     have h6:=dT g6
     exact absurd h6 (by omega)
     have h6:=dF g6
     refine Es<|Lq (o2 BB U U) rfl<|qa rfl<|Ld ?_
     refine Ec U (fun g7=>?_) (fun g7=>?_)
     have h7:=dT g7
     refine Es<|qm rfl<|Lo (Bv U AI Bt U U U ‹_›) U ?_
     refine Lo (Ad U U (by kernel_rfl) U (Ac (AT))) rfl<|qm U ?_
     iterate 2 refine Lq (oe U) U ?_
     iterate 2 refine qa U ?_
     refine Ld<|Ab<|Es<|qm rfl<|Lq (on U) rfl<|qm U ?_
     iterate 3 refine Lk U U ?_
     refine Lq (oT U U U) rfl<|Ld<|Ai U rfl<|Es<|Lo (At U U (A8 Dy AP ‹_› (Qc U))) rfl<|Ak (Ar U AP U U (Aq ‹_› U U U)) U rfl<|qa rfl<|Ld ?_
     rotate_left
     have h7:=dF g7
     exact absurd h7 (by omega)
    exact Aa ⟨.inl U,rfl,hlog,hb,BW (x:= {op:=opS w,a:=0,alts:=[],to:=[],term:=0,n:=0,args:=[]}) (b:=false) U U (Bl.trans (if_pos U)) U (insF6_no h7 (.inl hB))⟩
   |true=>
    cases ws with
    |nil=>
     have AT:R16 102 [strsV []]=some (.tuple [.nilslice,.bool true]):=by
      refine Eq.trans hintl ?_;rfl
     focus
      refine Ab<|Es<|Lq (of B1 U) rfl<|Lo (At U U (An DT DN ‹_› U)) rfl<|Ld<|Af<|Es<|Lq (o2 BB U U) U ?_
      refine qa rfl<|Ld ?_
      refine Ec U (fun g2=>?_) (fun g2=>?_)
      have h2:=dT g2
      exact absurd h2 (by omega)
      have h2:=dF g2
      refine Es<|Lq (o2 BB U U) rfl<|qa rfl<|Ld ?_
      refine Ec U (fun g3=>?_) (fun g3=>?_)
      have h3:=dT g3
      exact absurd h3 (by omega)
      have h3:=dF g3
      refine Ab<|Es<|Lq (o2 BB U U) rfl<|qa rfl<|Ld ?_
      refine Ec U (fun g4=>?_) (fun g4=>?_)
      have h4:=dT g4
      exact absurd h4 (by omega)
      have h4:=dF g4
      refine Ao<|Lq (o2 BB U U) rfl<|qa rfl<|Ld ?_
      refine Ec U (fun g5=>?_) (fun g5=>?_)
      have h5:=dT g5
      exact absurd h5 (by omega)
      have h5:=dF g5
      refine Es<|Lq (o2 BB U U) rfl<|qa rfl<|Ld ?_
      refine Ec U (fun g6=>?_) (fun g6=>?_)
      have h6:=dT g6
      exact absurd h6 (by omega)
      have h6:=dF g6
      refine Es<|Lq (o2 BB U U) rfl<|qa rfl<|Ld ?_
      refine Ec U (fun g7=>?_) (fun g7=>?_)
      have h7:=dT g7
      refine Es<|qm rfl<|Lq (Ef U AI Bt U U U U (AL (n:=1) (by omega)) (Qc U)) U ?_
      refine Lo (Ad U U (by kernel_rfl) U (Ac (AT))) rfl<|qm U ?_
      iterate 2 refine Lq (oe U) U ?_
      iterate 2 refine qa U ?_
      refine Ld<|Ab<|Es<|qm rfl<|Lq (on U) rfl<|qm rfl<|Lh U U (om U)<|Lh U U (OpQ.lenNil U U U U D6 U) ?_
      refine Lh U U (o2 u_3 U U)<|Lq (oF U U U) rfl<|Ld<|Ai U rfl<|Es<|Lo (At U U (A8 Dy AP ‹_› (Qc U))) rfl<|Ak (Ar U AP U U (Aq ‹_› U U U)) U rfl<|qa U ?_
      refine Ld ?_
      rotate_left
      have h7:=dF g7
      exact absurd h7 (by omega)
     exact Aa ⟨.inl U,rfl,hlog,hb,BW (x:= {op:=opS w,a:=0,alts:=[],to:=[],term:=0,n:=0,args:=[]}) (b:=false) U U (Bl.trans (if_pos U)) U (insF6_no h7 (.inr (by simp)))⟩
    |cons a ws=>
    cases ws with
    |nil=>
     have AT:R16 102 [strsV [a]]=some (.tuple [.islice [.int .i64 (intR a).1] 1 1 true,.bool true]):=by
      refine Eq.trans hintl ?_;unfold intsV;rw[hB];rfl
     focus
      refine Ab<|Es<|Lq (of B1 U) rfl<|Lo (At U U (An DT DN ‹_› U)) rfl<|Ld<|Af<|Es<|Lq (o2 BB U U) U ?_
      refine qa rfl<|Ld ?_
      refine Ec U (fun g2=>?_) (fun g2=>?_)
      have h2:=dT g2
      exact absurd h2 (by omega)
      have h2:=dF g2
      refine Es<|Lq (o2 BB U U) rfl<|qa rfl<|Ld ?_
      refine Ec U (fun g3=>?_) (fun g3=>?_)
      have h3:=dT g3
      exact absurd h3 (by omega)
      have h3:=dF g3
      refine Ab<|Es<|Lq (o2 BB U U) rfl<|qa rfl<|Ld ?_
      refine Ec U (fun g4=>?_) (fun g4=>?_)
      have h4:=dT g4
      exact absurd h4 (by omega)
      have h4:=dF g4
      refine Ao<|Lq (o2 BB U U) rfl<|qa rfl<|Ld ?_
      refine Ec U (fun g5=>?_) (fun g5=>?_)
      have h5:=dT g5
      exact absurd h5 (by omega)
      have h5:=dF g5
      refine Es<|Lq (o2 BB U U) rfl<|qa rfl<|Ld ?_
      refine Ec U (fun g6=>?_) (fun g6=>?_)
      have h6:=dT g6
      exact absurd h6 (by omega)
      have h6:=dF g6
      refine Es<|Lq (o2 BB U U) rfl<|qa rfl<|Ld ?_
      refine Ec U (fun g7=>?_) (fun g7=>?_)
      have h7:=dT g7
      refine Es<|qm rfl<|Lq (Ef U AI Bt U U U U (AL (n:=1) (by omega)) (Qc U)) U ?_
      refine Lo (Ad U U (by kernel_rfl) U (Ac (AT))) rfl<|qm U ?_
      iterate 2 refine Lq (oe U) U ?_
      iterate 2 refine qa U ?_
      refine Ld<|Ab<|Es<|qm rfl<|Lq (on U) rfl<|qm rfl<|Lh U U (om U)<|Lh U U (ol D6 U) ?_
      refine Lh U U (o2 u_3 U U)<|Lq (oF U U U) rfl<|Ld<|Ap U rfl<|Ae<|Es<|qm U ?_
      refine Lq (Bh (k:=0) U D6 Bf U U (by first|assumption|omega|(simp only[LL];omega)) U) U ?_
      refine Lq (As U U B3 Bf) rfl<|Lq (of DZ U) rfl<|Ak (Ar U Bf U U (Aq ‹_› U U U)) U rfl<|Ld<|Es ?_
      rotate_left
      have h7:=dF g7
      exact absurd h7 (by omega)
     have hA':=hS.store (X':=[.int .i64 (opS w),.int .i64 (intR a).1,.nilslice,.nilslice,.int .i64 0,.int .i64 0,.nilslice])
     show RegL _ _ _ _ _ _ (st.put 1 (some (.cells [.int .i64 (opS w),.int .i64 (intR a).1,.nilslice,.nilslice,.int .i64 0,.int .i64 0,.nilslice] 58 false))) _
     generalize st.put 1 (some (.cells [.int .i64 (opS w),.int .i64 (intR a).1,.nilslice,.nilslice,.int .i64 0,.int .i64 0,.nilslice] 58 false))=sA at hA'⊢
     have g1sA:=hA'.g1
     have g0sA:=hA'.g0
     refine Lo (At U U (A8 Dy AP ‹_› (Qc U))) rfl<|Ak (Ar U AP U U (Aq ‹_› U U U)) U rfl<|qa rfl<|Ld ?_
     exact Aa ⟨.inl U,rfl,DP hA'.hb hA'.hlg,hA'.hb,BW (x:= {op:=opS w,a:=(intR a).1,alts:=[],to:=[],term:=0,n:=0,args:=[]}) U U (Bl.trans (if_pos U)) (by rw[enc_ne (show¬opS w=5 by omega)];rfl) (insF6_yes h7 hB)⟩
    |cons b u=>
     have AT:R16 102 [strsV (a::b::u)]=some (.tuple [recs encZ 1 ((intR a).1::(intR b).1::u.map fun w=>(intR w).1),.bool true]):=by
      refine Eq.trans hintl ?_;unfold intsV;rw[hB];rfl
     have q3:lenSl (recs encZ 1 ((intR a).1::(intR b).1::u.map fun w=>(intR w).1))=some (.int .i64 ((u.length+1+1:Nat):Int)):=by
      show some (AV.int .i64 (((u.map fun w=>(intR w).1).length+1+1:Nat):Int))=_
      rw[List.length_map]
     focus
      refine Ab<|Es<|Lq (of B1 U) rfl<|Lo (At U U (An DT DN ‹_› U)) rfl<|Ld<|Af<|Es<|Lq (o2 BB U U) U ?_
      refine qa rfl<|Ld ?_
      refine Ec U (fun g2=>?_) (fun g2=>?_)
      have h2:=dT g2
      exact absurd h2 (by omega)
      have h2:=dF g2
      refine Es<|Lq (o2 BB U U) rfl<|qa rfl<|Ld ?_
      refine Ec U (fun g3=>?_) (fun g3=>?_)
      have h3:=dT g3
      exact absurd h3 (by omega)
      have h3:=dF g3
      refine Ab<|Es<|Lq (o2 BB U U) rfl<|qa rfl<|Ld ?_
      refine Ec U (fun g4=>?_) (fun g4=>?_)
      have h4:=dT g4
      exact absurd h4 (by omega)
      have h4:=dF g4
      refine Ao<|Lq (o2 BB U U) rfl<|qa rfl<|Ld ?_
      refine Ec U (fun g5=>?_) (fun g5=>?_)
      have h5:=dT g5
      exact absurd h5 (by omega)
      have h5:=dF g5
      refine Es<|Lq (o2 BB U U) rfl<|qa rfl<|Ld ?_
      refine Ec U (fun g6=>?_) (fun g6=>?_)
      have h6:=dT g6
      exact absurd h6 (by omega)
      have h6:=dF g6
      refine Es<|Lq (o2 BB U U) rfl<|qa rfl<|Ld ?_
      refine Ec U (fun g7=>?_) (fun g7=>?_)
      have h7:=dT g7
      refine Es<|qm rfl<|Lo (Bv U AI Bt U U U ‹_›) U ?_
      refine Lo (Ad U U (by kernel_rfl) U (Ac (AT))) rfl<|qm U ?_
      iterate 2 refine Lq (oe U) U ?_
      iterate 2 refine qa U ?_
      refine Ld<|Ab<|Es<|qm rfl<|Lq (on U) rfl<|qm rfl<|Lh U U (om U)<|Lh U U (ol D6 U) ?_
      refine Lh U U (o2 u_3 U U)<|Lq (oF U U U) rfl<|Ld<|Ai U rfl<|Es<|Lo (At U U (A8 Dy AP ‹_› (Qc U))) rfl<|Ak (Ar U AP U U (Aq ‹_› U U U)) U rfl<|qa U ?_
      refine Ld ?_
      rotate_left
      have h7:=dF g7
      exact absurd h7 (by omega)
     ·exact Aa ⟨.inl U,rfl,hlog,hb,BW (x:= {op:=opS w,a:=0,alts:=[],to:=[],term:=0,n:=0,args:=[]}) (b:=false) U U (Bl.trans (if_pos U)) U (insF6_no h7 (.inr (by simp)))⟩
     all_goals (exfalso;omega)
  focus
   refine Ab<|Es<|Lq (of B1 U) rfl<|Lo (At U U (An DT DN ‹_› U)) rfl<|Ld<|Af<|Es<|Lq (o2 BB U U) U ?_
   refine qa rfl<|Ld ?_
   refine Ec U (fun g2=>?_) (fun g2=>?_)
   have h2:=dT g2
   exact absurd h2 (by omega)
   have h2:=dF g2
   refine Es<|Lq (o2 BB U U) rfl<|qa rfl<|Ld ?_
   refine Ec U (fun g3=>?_) (fun g3=>?_)
   have h3:=dT g3
   exact absurd h3 (by omega)
   have h3:=dF g3
   refine Ab<|Es<|Lq (o2 BB U U) rfl<|qa rfl<|Ld ?_
   refine Ec U (fun g4=>?_) (fun g4=>?_)
   have h4:=dT g4
   exact absurd h4 (by omega)
   have h4:=dF g4
   refine Ao<|Lq (o2 BB U U) rfl<|qa rfl<|Ld ?_
   refine Ec U (fun g5=>?_) (fun g5=>?_)
   have h5:=dT g5
   exact absurd h5 (by omega)
   have h5:=dF g5
   refine Es<|Lq (o2 BB U U) rfl<|qa rfl<|Ld ?_
   refine Ec U (fun g6=>?_) (fun g6=>?_)
   have h6:=dT g6
   exact absurd h6 (by omega)
   have h6:=dF g6
   refine Es<|Lq (o2 BB U U) rfl<|qa rfl<|Ld ?_
   refine Ec U (fun g7=>?_) (fun g7=>?_)
   have h7:=dT g7
   exact absurd h7 (by omega)
   have h7:=dF g7
   refine Ae<|Es<|Lo (At U U (A8 Dy AP ‹_› (Qc U))) rfl<|Ak (Ar U AP U U (Aq ‹_› U U U)) U rfl<|qa rfl<|Ld ?_
   rotate_left
  exact Aa ⟨.inl U,rfl,hlog,hb,BW (x:= {op:=opS w,a:=0,alts:=[],to:=[],term:=0,n:=0,args:=[]}) U U (Bl.trans (if_pos U)) (by rw[enc_ne (show¬opS w=5 by omega)];rfl) (by unfold insF;rw[if_neg h2,if_neg h3,if_neg h45,if_neg h6,if_neg h7])⟩
end Go.Proofs.YtpihdbhocgcbpaaGreatDoor.Rd
