/- Code: what is as defined. -/
import Derived.Test.YtpihdbhocgcbpaaGreatDoorCdA
set_option linter.unusedSectionVars false
set_option linter.unusedVariables false
set_option linter.unusedSimpArgs false
open Go Am
namespace Go.Proofs.YtpihdbhocgcbpaaGreatDoor
noncomputable def K9:=addC K8 60 (fun p:AtT=>[.agg (encC p.1.1),.int .i64 (p.1.2:Nat)]) (fun p=> .bool (insV p.1.1 p.1.2 p.x))
theorem hit_60 {c:CodeT} {k:Nat} (h:Fits c) (hk:k<c.ins.length):K9 60 [.agg (encC c),.int .i64 (k:Nat)]=some (.bool (insV c k c.ins[k])):=
 A2 (f:=60) (enc:=fun p:AtT=>[.agg (encC p.1.1),.int .i64 (p.1.2:Nat)]) (res:=fun p=> .bool (insV p.1.1 p.1.2 p.x)) (fun p q h=>by rw[encAt_inj h]) ⟨(c,k),h,hk⟩
theorem all9 (h:KnownF Tryz.prog 10 [] (.bool true)):KnownAll Tryz.prog K9:=Db AB (all8 h) (fun p:AtT=>ins_to p.1.1 p.1.2 p.2.1 p.2.2) (fun _=>rfl) (fun _=>rfl)
def startAt (c:CodeT) (i:Nat):Bool:=inV (c.starts.getD i 0) 0 (c.ins.length-1)
def insAt (c:CodeT) (i:Nat):Bool:=insV c i (iAt c i)
def headV (c:CodeT):Bool:=sigV c.cons c.funs&& !(decide (1000<(c.ins.length:Int))|| !decide ((c.starts.length:Int)=c.funs.length))
def codeV (c:CodeT):Bool:=headV c&&((List.range c.starts.length).all (startAt c)&&(List.range c.ins.length).all (insAt c))
theorem code_to (c:CodeT) (hf:Fits c):CallTo (EK K9) 24 [.agg (encC c)] S0 (.bool (codeV c)):=by
 refine Ax (fn:=Tryz.f24) U U (by kernel_rfl) U U U U ?_
 have hno:headV c=false→codeV c=false:=fun h=>by unfold codeV;rw[h];rfl
 have hcn:=hf.cnames
 have hfn:=hf.fnames
 have hl1:=hf.starts
 have hl2:=hf.ins
 focus
  refine Es<|Lo (AD 1 U U U U) rfl<|qa rfl<|Ld<|Ab<|Es<|Lq (of DI U) rfl<|Lo (AM U ag_24 sz_24 U U (Qc U)) U ?_
  refine Lo (Ad U U (by kernel_rfl) U (Ac (hit_59 (by first|assumption|omega|(simp only[LL];omega)) (by first|assumption|omega|(simp only[LL];omega))))) U ?_
  refine Lq (on U) rfl<|qm U ?_
  refine Lb U (fun g1=>?_) (fun g1=>?_)
  have h1:=Fo g1
  iterate 4 refine Lk U ‹_› ?_
  refine Lq (oT U ‹_› U) rfl<|qm U ?_
  iterate 8 refine Lk U U ?_
  refine Lq (oT U U U) rfl<|Ld<|Ai U rfl<|Es<|qa rfl<|Ld ?_
  refine Aa (Er U ?_)
  refine Ah ?_
  rotate_left
  have h1:=Fp g1
  refine Lh U ‹_› (of Bp U)<|Lg U ‹_› (l1 Du Dc U)<|Lh U ‹_› (ol u_25 U)<|Lh U ‹_› (o2 u_3 U U)<|Lq (oF U ‹_› U) rfl<|qm U ?_
  refine Lb U (fun g2=>?_) (fun g2=>?_)
  have h2:=dT g2
  iterate 8 refine Lk U ‹_› ?_
  refine Lq (oT U ‹_› U) rfl<|Ld<|Ai U rfl<|Es<|qa rfl<|Ld ?_
  refine Aa (Er U ?_)
  refine Ah ?_
  rotate_left
  have h2:=dF g2
  refine Lh U ‹_› (of ES U)<|Lg U ‹_› (l1 Dn BC U)<|Lh U ‹_› (ol D6 U)<|Lh U ‹_› (of DI U)<|Lh U ‹_› (of BT U)<|Lg U ‹_› (l1 B4 B2 U)<|Lh U ‹_› (ol DY U)<|Lh U ‹_› (o2 u_3 U U) ?_
  refine Lq (oF U ‹_› U) rfl<|Ld ?_
  refine Ec U (fun g3=>?_) (fun g3=>?_)
  have h3:=nT g3
  refine Es<|qa rfl<|Ld ?_
  refine Aa (Er U ?_)
  refine Ah ?_
  rotate_left
  have h3:=nF g3
  refine Ae<|Ab<|Es<|qa rfl<|Ld<|Af ?_
  rotate_left
 ·rw[hno (by unfold headV;rw[h1];rfl)]
 ·rw[hno (by unfold headV;rw[g2];simp)]
 ·rw[hno (by unfold headV;rw[decide_eq_false h3];simp)]
 have hhd:headV c=true:=by unfold headV;rw[h1,g2,decide_eq_true h3];rfl
 refine A5 (fun i:Nat=>([(3,.int .i64 (i:Nat)),(1,.ptr 0 0)],mkS 1 0 [] [(0,some (.cells (encC c) 28 false))])) (fun i=>c.starts.length-i) (fun i=>i≤c.starts.length∧(List.range i).all (startAt c)=true) 0 ⟨Qn _,rfl⟩ U (by(refine Am.Av ?_;repeat (first|exact trivial|refine⟨rfl,?_⟩))) ?_
 rintro i ⟨hi,hs⟩
 dsimp only at hi hs⊢
 by_cases h:i<c.starts.length
 ·have hp:=AC Be h
  have hat:startAt c i=inV c.starts[i] 0 (c.ins.length-1):=by unfold startAt;rw[Dh h]
  focus
   refine Ab<|Es<|qm rfl<|Lq (of ES U) rfl<|Lo (l1 Dn BC U) rfl<|Lq (ol D6 U) rfl<|Lq (o2 u_3 U U) rfl<|Ld ?_
   refine Ec U (fun g4=>?_) (fun g4=>?_)
   have h4:=dT g4
   refine Ae<|Ab<|Af<|AK (by kernel_rfl)<|Nq (of ES U) rfl<|AZ U Dn BC U U U (by kernel_rfl) (.inl U) U rfl<|Nq (om U) rfl<|Nq (Ag U D6 Bf U U ‹_›) U ?_
   refine Nq (As U U B3 Bf) rfl<|Nq (of Bp U) rfl<|AZ U Du Dc U U U (by kernel_rfl) (.inl U) U rfl<|Nq (ol u_25 U) rfl<|Nq (EL U u_3 U U (by omega)) U ?_
   refine Et (B6 U U (by kernel_rfl) U (hit_43)) (.inl U) U rfl<|Nq (on U) rfl<|AG ?_
   refine Ec U (fun g5=>?_) (fun g5=>?_)
   have h5:=Fo g5
   refine Es<|qa rfl<|Ld ?_
   refine Aa (Er U ?_)
   refine Ah ?_
   rotate_left
   have h5:=Fp g5
   refine Ae<|Ao<|qm U ?_
   refine Lq (A0 (b:=1) U u_3 U U (by first|assumption|omega|(simp only[LL];omega))) U ?_
   refine qa rfl<|Ld ?_
   rotate_left
   have h4:=dF g4
   exact absurd h4 (by omega)
  ·unfold codeV;rw[ra_no h (hat.trans h5),Bool.false_and,Bool.and_false]
  ·exact⟨i+1,⟨h,E8 hs (hat.trans h5)⟩,by show c.starts.length-(i+1)<c.starts.length-i;omega,rfl,rfl,by(refine Am.Av ?_;repeat (first|exact trivial|refine⟨rfl,?_⟩))⟩
 ·focus
   refine Ab<|Es<|qm rfl<|Lq (of ES U) rfl<|Lo (l1 Dn BC U) rfl<|Lq (ol D6 U) rfl<|Lq (o2 u_3 U U) rfl<|Ld ?_
   refine Ec U (fun g4=>?_) (fun g4=>?_)
   have h4:=dT g4
   exact absurd h4 (by omega)
   have h4:=dF g4
   refine A9<|Bq rfl<|Ab<|Es<|qa rfl<|Ld<|Af ?_
   rotate_left
  obtain rfl:i=c.starts.length:=by omega
  refine A5 (fun i:Nat=>([(4,.int .i64 (i:Nat)),(1,.ptr 0 0)],mkS 1 0 [] [(0,some (.cells (encC c) 28 false))])) (fun i=>c.ins.length-i) (fun i=>i≤c.ins.length∧(List.range i).all (insAt c)=true) 0 ⟨Qn _,rfl⟩ U (by(refine Am.Av ?_;repeat (first|exact trivial|refine⟨rfl,?_⟩))) ?_
  rintro j ⟨hj,hs2⟩
  dsimp only at hj hs2⊢
  by_cases h':j<c.ins.length
  ·have hat:insAt c j=insV c j c.ins[j]:=by unfold insAt;rw[iAt_eq h']
   focus
    refine Ab<|Es<|qm rfl<|Lq (of Bp U) rfl<|Lo (l1 Du Dc U) rfl<|Lq (ol u_25 U) rfl<|Lq (o2 u_3 U U) rfl<|Ld ?_
    refine Ec U (fun g5=>?_) (fun g5=>?_)
    have h5:=dT g5
    refine Ae<|Ab<|Af<|Es<|Lo (AM U DU Bg U U (Qc U)) rfl<|qm U ?_
    refine Lo (Ad U U (by kernel_rfl) U (Ac (hit_60 (by first|assumption|omega|(simp only[LL];omega)) (by first|assumption|omega|(simp only[LL];omega))))) U ?_
    refine Lq (on U) rfl<|Ld ?_
    refine Ec U (fun g6=>?_) (fun g6=>?_)
    have h6:=Fo g6
    refine Es<|qa rfl<|Ld ?_
    refine Aa (Er U ?_)
    refine Ah ?_
    rotate_left
    have h6:=Fp g6
    refine Ae<|Ao<|qm U ?_
    refine Lq (A0 (b:=1) U u_3 U U (by first|assumption|omega|(simp only[LL];omega))) U ?_
    refine qa rfl<|Ld ?_
    rotate_left
    have h5:=dF g5
    exact absurd h5 (by omega)
   ·unfold codeV;rw[ra_no h' (hat.trans h6),Bool.and_false,Bool.and_false]
   ·exact⟨j+1,⟨h',E8 hs2 (hat.trans h6)⟩,by show c.ins.length-(j+1)<c.ins.length-j;omega,rfl,rfl,by(refine Am.Av ?_;repeat (first|exact trivial|refine⟨rfl,?_⟩))⟩
  ·focus
    refine Ab<|Es<|qm rfl<|Lq (of Bp U) rfl<|Lo (l1 Du Dc U) rfl<|Lq (ol u_25 U) rfl<|Lq (o2 u_3 U U) rfl<|Ld ?_
    refine Ec U (fun g5=>?_) (fun g5=>?_)
    have h5:=dT g5
    exact absurd h5 (by omega)
    have h5:=dF g5
    refine A9<|Bq rfl<|Es<|qa rfl<|Ld ?_
    refine Aa (Er U ?_)
    refine Ah ?_
    rotate_left
   obtain rfl:j=c.ins.length:=by omega
   unfold codeV;rw[hs,hs2,hhd];rfl
abbrev FitT:= {c:CodeT//Fits c}
theorem encF_inj {p q:FitT} (h:([.agg (encC p.1)]:List AV)=[.agg (encC q.1)]):p=q:=by
 obtain⟨a,_⟩:=p
 obtain⟨b,_⟩:=q
 obtain rfl:=encC_inj (List.cons.inj h).1
 rfl
noncomputable def K10a:=addC K9 24 (fun p:FitT=>[.agg (encC p.1)]) (fun p=> .bool (codeV p.1))
theorem hit_24 {c:CodeT} (h:Fits c):K10a 24 [.agg (encC c)]=some (.bool (codeV c)):=
 A2 (f:=24) (enc:=fun p:FitT=>[.agg (encC p.1)]) (res:=fun p=> .bool (codeV p.1)) (fun p q h=>by rw[encF_inj h]) ⟨c,h⟩
theorem rcheck_to (c:CodeT) (hf:Fits c):CallTo (EK K10a) 14 [.agg (encC c)] S0 (.int .i64 (if codeV c then 0 else 2)):=by
 refine Ax (fn:=Tryz.f14) U U (by kernel_rfl) U U U U ?_
 focus
  refine Es<|Lo (AD 1 U U U U) rfl<|qa rfl<|Ld<|Ab<|Es<|Lo (AM U DU Bg U U (Qc U)) U ?_
  refine Lo (Ad U U (by kernel_rfl) U (Ac (hit_24 (by first|assumption|omega|(simp only[LL];omega))))) U ?_
  refine Lq (on U) rfl<|Ld ?_
  refine Ec U (fun g1=>?_) (fun g1=>?_)
  have h1:=Fo g1
  refine Es<|qa rfl<|Ld ?_
  refine Aa (Er U ?_)
  rotate_left
  have h1:=Fp g1
  refine Ae<|Es<|qa rfl<|Ld ?_
  refine Aa (Er U ?_)
  rotate_left
 ·rw[h1];rfl
 ·rw[h1];rfl
noncomputable def K10:=addC K10a 14 (fun p:FitT=>[.agg (encC p.1)]) (fun p=> .int .i64 (if codeV p.1 then 0 else 2))
theorem all10 (h:KnownF Tryz.prog 10 [] (.bool true)):KnownAll Tryz.prog K10:=
 Db AB (Db AB (all9 h) (fun p:FitT=>code_to p.1 p.2) (fun _=>rfl) (fun _=>rfl)) (fun p:FitT=>rcheck_to p.1 p.2) (fun _=>rfl) (fun _=>rfl)
def rgV (x:InsT):Bool:= !decide (x.a=0)
def csV (x:InsT):Bool:=decide (0<(x.alts.length:Int))
def tgV (x:InsT):Bool:=decide (0<(x.to.length:Int))
def ndV (x:InsT):Bool:= !nodeV x
def sh1 (x:InsT):Bool:=decide (x.op=1)&&(!tgV x&& !ndV x)
def sh2 (x:InsT):Bool:=decide (x.op=2)&&(!rgV x&&(!csV x&& !ndV x))
def sh3 (x:InsT):Bool:=decide (x.op=3)&&(!rgV x&&(!csV x&&(!tgV x&& !ndV x)))
def sh4 (x:InsT):Bool:=decide (x.op=4)&&(!rgV x&&(!csV x&&(!tgV x&& !ndV x)))
def sh5 (x:InsT):Bool:=decide (x.op=5)&&(!rgV x&&(!csV x&& !tgV x))
def sh6 (x:InsT):Bool:=decide (x.op=6)&&(!csV x&&(!tgV x&& !ndV x))
inductive ShT where
 |looks (reg:Int) (alts:List AltT)
 |goes (to:List Int)
 |fails
 |frees
 |makes (op n:Int) (args:List Int)
 |enters (reg:Int)
 |no
def shA:ShT→AV
 | .looks r l=> .iface 114 (.agg [.int .i64 r,recs encA 2 l])
 | .goes l=> .iface 117 (.agg [recs encZ 1 l])
 | .fails=> .iface 166 (.agg [])
 | .frees=> .iface 167 (.agg [])
 | .makes o n l=> .iface 119 (.agg [.int .i64 o,.int .i64 n,recs encZ 1 l])
 | .enters r=> .iface 121 (.agg [.int .i64 r])
 | .no=> .niliface
def shapeV (x:InsT):ShT:=
 if sh1 x then .looks x.a x.alts else if sh2 x then .goes x.to else if sh3 x then .fails else if sh4 x then .frees else if sh5 x then .makes x.term x.n x.args else if sh6 x then .enters x.a else .no
theorem len_pos {α:Type} {l:List α}:decide (0<(l.length:Int))= !decide ((l.length:Int)=0):=by
 cases l with
 |nil=>rfl
 |cons a l=>simp;omega
theorem shaped_to (x:InsT):CallTo (EK K10) 51 [.agg (encI x)] S0 (shA (shapeV x)):=by
 refine Ax (fn:=Tryz.f51) U U (by kernel_rfl) U U U rfl<|Es<|Lo (AD 1 U U U U) rfl<|qa rfl<|Ld ?_
 refine E3 [(6,.bool (ndV x)),(5,.bool (tgV x)),(4,.bool (csV x)),(3,.bool (rgV x)),(2,.niliface),(1,.ptr 0 0)] (mkS 1 0 [] [(0,some (.cells (encI x) 58 false))]) ?_ ?_
 ·focus
   refine Dw (by kernel_rfl)<|Nq (of DZ U) rfl<|AZ U B3 Bf U U U (by kernel_rfl) (.inl U) U rfl<|Nq (o2 u_3 U U) rfl<|Nq (of D5 U) rfl<|AZ U ag_56 E7 U U U (by kernel_rfl) (.inl U) U rfl<|Nq (ol u_56 U) rfl<|Nq (o2 u_3 U U) U ?_
   refine Nq (of Em U) rfl<|AZ U Dn BC U U U (by kernel_rfl) (.inl U) U rfl<|Nq (ol D6 U) rfl<|Nq (o2 u_3 U U) rfl<|Nq (of f_58_4 U) rfl<|AZ U ag_37 sz_37 U U U (by kernel_rfl) (.inl U) U rfl<|Nq (o2 u_37 U U) rfl<|Nq (om U) U ?_
   refine En U U U U (fun g1=>?_) (fun g1=>?_)
   have h1:=nT g1
   iterate 3 refine Nk U ‹_› ?_
   refine Nq (oT U ‹_› U) rfl<|Nq (om U) U ?_
   iterate 4 refine Nk U U ?_
   refine Nq (oT U U U) U ?_
   iterate 4 refine Nq (oa U) U ?_
   refine AG ?_
   rotate_left
   have h1:=nF g1
   refine Ng U ‹_› (of BY U)<|AZ U B3 Bf U U U (by kernel_rfl) (Bm U U U U ‹_›) U rfl<|Ng U ‹_› (o2 u_3 U U)<|Nq (oF U ‹_› U) rfl<|Nq (om U) U ?_
   refine En U U U U (fun g2=>?_) (fun g2=>?_)
   have h2:=nT g2
   iterate 4 refine Nk U ‹_› ?_
   refine Nq (oT U ‹_› U) U ?_
   iterate 4 refine Nq (oa U) U ?_
   refine AG ?_
   rotate_left
   have h2:=nF g2
   refine Ng U ‹_› (of f_58_6 U)<|AZ U Dn BC U U U (by kernel_rfl) (Bm U U U U ‹_›) U rfl<|Ng U ‹_› (ol D6 U)<|Ng U ‹_› (o2 u_3 U U)<|Nq (oF U ‹_› U) U ?_
   iterate 4 refine Nq (oa U) U ?_
   refine AG ?_
   rotate_left
  ·refine⟨rfl,rfl,rfl,?_⟩
   have e:ndV x=true:=by unfold ndV nodeV;rw[decide_eq_false h1];rfl
   rw[e]
   (refine Am.Av ?_;repeat (first|exact trivial|refine⟨rfl,?_⟩))
  ·refine⟨rfl,rfl,rfl,?_⟩
   have e:ndV x=true:=by unfold ndV nodeV;rw[decide_eq_true h1,decide_eq_false h2];rfl
   rw[e]
   (refine Am.Av ?_;repeat (first|exact trivial|refine⟨rfl,?_⟩))
  ·refine⟨rfl,rfl,rfl,?_⟩
   have e:ndV x=decide (0<(x.args.length:Int)):=by unfold ndV nodeV;rw[decide_eq_true h1,decide_eq_true h2,len_pos];rfl
   rw[e]
   (refine Am.Av ?_;repeat (first|exact trivial|refine⟨rfl,?_⟩))
 refine Ab<|Af ?_
 refine E3 [(32,.bool (sh1 x)),(6,.bool (ndV x)),(5,.bool (tgV x)),(4,.bool (csV x)),(3,.bool (rgV x)),(2,.niliface),(1,.ptr 0 0)] (mkS 1 0 [] [(0,some (.cells (encI x) 58 false))]) ?_ ?_
 ·focus
   refine Ao<|Lq (of B1 U) rfl<|Lo (l1 DT DN U) rfl<|Lq (o2 BB U U) rfl<|qm U ?_
   refine Lb U (fun g1=>?_) (fun g1=>?_)
   have h1:=dT g1
   refine Lh U ‹_› (om U)<|Lh U ‹_› (on U)<|Lq (oT U ‹_› U) rfl<|qm U ?_
   refine Lb U (fun g2=>?_) (fun g2=>?_)
   have h2:=Fo g2
   refine Lh U ‹_› (om U)<|Lh U ‹_› (on U)<|Lq (oT U ‹_› U) rfl<|qa rfl<|Ld ?_
   rotate_left
   have h2:=Fp g2
   iterate 2 refine Lk U ‹_› ?_
   refine Lq (oF U ‹_› U) rfl<|qa rfl<|Ld ?_
   rotate_left
   have h1:=dF g1
   iterate 2 refine Lk U ‹_› ?_
   refine Lq (oF U ‹_› U) rfl<|qm U ?_
   iterate 2 refine Lk U U ?_
   refine Lq (oF U U U) rfl<|qa rfl<|Ld ?_
   rotate_left
  ·refine⟨rfl,rfl,rfl,?_⟩
   have e:sh1 x=(!ndV x):=by unfold sh1;rw[g1,g2];rfl
   rw[e]
   (refine Am.Av ?_;repeat (first|exact trivial|refine⟨rfl,?_⟩))
  ·refine⟨rfl,rfl,rfl,?_⟩
   have e:sh1 x=(false):=by unfold sh1;rw[g1,g2];rfl
   rw[e]
   (refine Am.Av ?_;repeat (first|exact trivial|refine⟨rfl,?_⟩))
  ·refine⟨rfl,rfl,rfl,?_⟩
   have e:sh1 x=(false):=by unfold sh1;rw[g1];rfl
   rw[e]
   (refine Am.Av ?_;repeat (first|exact trivial|refine⟨rfl,?_⟩))
 refine Ec U (fun g1=>?_) (fun g1=>?_)
 ·refine Es ?_
  refine Lq (of DZ U) rfl<|Lo (l1 B3 Bf U) rfl<|Lq (of D5 U) rfl<|Lo (l1 ag_56 E7 U) rfl<|Lq (AJ U pl_114 U U) rfl<|Lq (DC U if_114 U) rfl<|qa rfl<|Ld ?_
  refine Aa (Er U ?_)
  unfold shapeV
  rw[g1];rfl
 skip
 refine E3 [(50,.bool (sh2 x)),(6,.bool (ndV x)),(5,.bool (tgV x)),(4,.bool (csV x)),(3,.bool (rgV x)),(2,.niliface),(1,.ptr 0 0)] (mkS 1 0 [] [(0,some (.cells (encI x) 58 false))]) ?_ ?_
 ·focus
   refine Ao<|Lq (of B1 U) rfl<|Lo (l1 DT DN U) rfl<|Lq (o2 BB U U) rfl<|qm U ?_
   refine Lb U (fun g2=>?_) (fun g2=>?_)
   have h2:=dT g2
   refine Lh U ‹_› (om U)<|Lh U ‹_› (on U)<|Lq (oT U ‹_› U) rfl<|qm U ?_
   refine Lb U (fun g3=>?_) (fun g3=>?_)
   have h3:=Fo g3
   refine Lh U ‹_› (om U)<|Lh U ‹_› (on U)<|Lq (oT U ‹_› U) rfl<|qm U ?_
   refine Lb U (fun g4=>?_) (fun g4=>?_)
   have h4:=Fo g4
   refine Lh U ‹_› (om U)<|Lh U ‹_› (on U)<|Lq (oT U ‹_› U) rfl<|qa rfl<|Ld ?_
   rotate_left
   have h4:=Fp g4
   iterate 2 refine Lk U ‹_› ?_
   refine Lq (oF U ‹_› U) rfl<|qa rfl<|Ld ?_
   rotate_left
   have h3:=Fp g3
   iterate 2 refine Lk U ‹_› ?_
   refine Lq (oF U ‹_› U) rfl<|qm U ?_
   iterate 2 refine Lk U U ?_
   refine Lq (oF U U U) rfl<|qa rfl<|Ld ?_
   rotate_left
   have h2:=dF g2
   iterate 2 refine Lk U ‹_› ?_
   refine Lq (oF U ‹_› U) rfl<|qm U ?_
   iterate 2 refine Lk U U ?_
   refine Lq (oF U U U) rfl<|qm U ?_
   iterate 2 refine Lk U U ?_
   refine Lq (oF U U U) rfl<|qa rfl<|Ld ?_
   rotate_left
  ·refine⟨rfl,rfl,rfl,?_⟩
   have e:sh2 x=(!ndV x):=by unfold sh2;rw[g2,g3,g4];rfl
   rw[e]
   (refine Am.Av ?_;repeat (first|exact trivial|refine⟨rfl,?_⟩))
  ·refine⟨rfl,rfl,rfl,?_⟩
   have e:sh2 x=(false):=by unfold sh2;rw[g2,g3,g4];rfl
   rw[e]
   (refine Am.Av ?_;repeat (first|exact trivial|refine⟨rfl,?_⟩))
  ·refine⟨rfl,rfl,rfl,?_⟩
   have e:sh2 x=(false):=by unfold sh2;rw[g2,g3];rfl
   rw[e]
   (refine Am.Av ?_;repeat (first|exact trivial|refine⟨rfl,?_⟩))
  ·refine⟨rfl,rfl,rfl,?_⟩
   have e:sh2 x=(false):=by unfold sh2;rw[g2];rfl
   rw[e]
   (refine Am.Av ?_;repeat (first|exact trivial|refine⟨rfl,?_⟩))
 refine Ec U (fun g2=>?_) (fun g2=>?_)
 ·refine Es ?_
  refine Lq (of Em U) rfl<|Lo (l1 Dn BC U) rfl<|Lq (AJ U pl_117 U U) rfl<|Lq (DC U if_117 U) rfl<|qa rfl<|Ld ?_
  refine Aa (Er U ?_)
  unfold shapeV
  rw[g1,g2];rfl
 skip
 refine E3 [(70,.bool (sh3 x)),(6,.bool (ndV x)),(5,.bool (tgV x)),(4,.bool (csV x)),(3,.bool (rgV x)),(2,.niliface),(1,.ptr 0 0)] (mkS 1 0 [] [(0,some (.cells (encI x) 58 false))]) ?_ ?_
 ·focus
   refine Ao<|Lq (of B1 U) rfl<|Lo (l1 DT DN U) rfl<|Lq (o2 BB U U) rfl<|qm U ?_
   refine Lb U (fun g3=>?_) (fun g3=>?_)
   have h3:=dT g3
   refine Lh U ‹_› (om U)<|Lh U ‹_› (on U)<|Lq (oT U ‹_› U) rfl<|qm U ?_
   refine Lb U (fun g4=>?_) (fun g4=>?_)
   have h4:=Fo g4
   refine Lh U ‹_› (om U)<|Lh U ‹_› (on U)<|Lq (oT U ‹_› U) rfl<|qm U ?_
   refine Lb U (fun g5=>?_) (fun g5=>?_)
   have h5:=Fo g5
   refine Lh U ‹_› (om U)<|Lh U ‹_› (on U)<|Lq (oT U ‹_› U) rfl<|qm U ?_
   refine Lb U (fun g6=>?_) (fun g6=>?_)
   have h6:=Fo g6
   refine Lh U ‹_› (om U)<|Lh U ‹_› (on U)<|Lq (oT U ‹_› U) rfl<|qa rfl<|Ld ?_
   rotate_left
   have h6:=Fp g6
   iterate 2 refine Lk U ‹_› ?_
   refine Lq (oF U ‹_› U) rfl<|qa rfl<|Ld ?_
   rotate_left
   have h5:=Fp g5
   iterate 2 refine Lk U ‹_› ?_
   refine Lq (oF U ‹_› U) rfl<|qm U ?_
   iterate 2 refine Lk U U ?_
   refine Lq (oF U U U) rfl<|qa rfl<|Ld ?_
   rotate_left
   have h4:=Fp g4
   iterate 2 refine Lk U ‹_› ?_
   refine Lq (oF U ‹_› U) rfl<|qm U ?_
   iterate 2 refine Lk U U ?_
   refine Lq (oF U U U) rfl<|qm U ?_
   iterate 2 refine Lk U U ?_
   refine Lq (oF U U U) rfl<|qa rfl<|Ld ?_
   rotate_left
   have h3:=dF g3
   iterate 2 refine Lk U ‹_› ?_
   refine Lq (oF U ‹_› U) rfl<|qm U ?_
   iterate 2 refine Lk U U ?_
   refine Lq (oF U U U) rfl<|qm U ?_
   iterate 2 refine Lk U U ?_
   refine Lq (oF U U U) rfl<|qm U ?_
   iterate 2 refine Lk U U ?_
   refine Lq (oF U U U) rfl<|qa rfl<|Ld ?_
   rotate_left
  ·refine⟨rfl,rfl,rfl,?_⟩
   have e:sh3 x=(!ndV x):=by unfold sh3;rw[g3,g4,g5,g6];rfl
   rw[e]
   (refine Am.Av ?_;repeat (first|exact trivial|refine⟨rfl,?_⟩))
  ·refine⟨rfl,rfl,rfl,?_⟩
   have e:sh3 x=(false):=by unfold sh3;rw[g3,g4,g5,g6];rfl
   rw[e]
   (refine Am.Av ?_;repeat (first|exact trivial|refine⟨rfl,?_⟩))
  ·refine⟨rfl,rfl,rfl,?_⟩
   have e:sh3 x=(false):=by unfold sh3;rw[g3,g4,g5];rfl
   rw[e]
   (refine Am.Av ?_;repeat (first|exact trivial|refine⟨rfl,?_⟩))
  ·refine⟨rfl,rfl,rfl,?_⟩
   have e:sh3 x=(false):=by unfold sh3;rw[g3,g4];rfl
   rw[e]
   (refine Am.Av ?_;repeat (first|exact trivial|refine⟨rfl,?_⟩))
  ·refine⟨rfl,rfl,rfl,?_⟩
   have e:sh3 x=(false):=by unfold sh3;rw[g3];rfl
   rw[e]
   (refine Am.Av ?_;repeat (first|exact trivial|refine⟨rfl,?_⟩))
 refine Ec U (fun g3=>?_) (fun g3=>?_)
 ·refine Es ?_
  refine Lq (AJ U pl_166 U U) rfl<|Lq (DC U if_166 U) rfl<|qa rfl<|Ld ?_
  refine Aa (Er U ?_)
  unfold shapeV
  rw[g1,g2,g3];rfl
 skip
 refine E3 [(92,.bool (sh4 x)),(6,.bool (ndV x)),(5,.bool (tgV x)),(4,.bool (csV x)),(3,.bool (rgV x)),(2,.niliface),(1,.ptr 0 0)] (mkS 1 0 [] [(0,some (.cells (encI x) 58 false))]) ?_ ?_
 ·focus
   refine Ao<|Lq (of B1 U) rfl<|Lo (l1 DT DN U) rfl<|Lq (o2 BB U U) rfl<|qm U ?_
   refine Lb U (fun g4=>?_) (fun g4=>?_)
   have h4:=dT g4
   refine Lh U ‹_› (om U)<|Lh U ‹_› (on U)<|Lq (oT U ‹_› U) rfl<|qm U ?_
   refine Lb U (fun g5=>?_) (fun g5=>?_)
   have h5:=Fo g5
   refine Lh U ‹_› (om U)<|Lh U ‹_› (on U)<|Lq (oT U ‹_› U) rfl<|qm U ?_
   refine Lb U (fun g6=>?_) (fun g6=>?_)
   have h6:=Fo g6
   refine Lh U ‹_› (om U)<|Lh U ‹_› (on U)<|Lq (oT U ‹_› U) rfl<|qm U ?_
   refine Lb U (fun g7=>?_) (fun g7=>?_)
   have h7:=Fo g7
   refine Lh U ‹_› (om U)<|Lh U ‹_› (on U)<|Lq (oT U ‹_› U) rfl<|qa rfl<|Ld ?_
   rotate_left
   have h7:=Fp g7
   iterate 2 refine Lk U ‹_› ?_
   refine Lq (oF U ‹_› U) rfl<|qa rfl<|Ld ?_
   rotate_left
   have h6:=Fp g6
   iterate 2 refine Lk U ‹_› ?_
   refine Lq (oF U ‹_› U) rfl<|qm U ?_
   iterate 2 refine Lk U U ?_
   refine Lq (oF U U U) rfl<|qa rfl<|Ld ?_
   rotate_left
   have h5:=Fp g5
   iterate 2 refine Lk U ‹_› ?_
   refine Lq (oF U ‹_› U) rfl<|qm U ?_
   iterate 2 refine Lk U U ?_
   refine Lq (oF U U U) rfl<|qm U ?_
   iterate 2 refine Lk U U ?_
   refine Lq (oF U U U) rfl<|qa rfl<|Ld ?_
   rotate_left
   have h4:=dF g4
   iterate 2 refine Lk U ‹_› ?_
   refine Lq (oF U ‹_› U) rfl<|qm U ?_
   iterate 2 refine Lk U U ?_
   refine Lq (oF U U U) rfl<|qm U ?_
   iterate 2 refine Lk U U ?_
   refine Lq (oF U U U) rfl<|qm U ?_
   iterate 2 refine Lk U U ?_
   refine Lq (oF U U U) rfl<|qa rfl<|Ld ?_
   rotate_left
  ·refine⟨rfl,rfl,rfl,?_⟩
   have e:sh4 x=(!ndV x):=by unfold sh4;rw[g4,g5,g6,g7];rfl
   rw[e]
   (refine Am.Av ?_;repeat (first|exact trivial|refine⟨rfl,?_⟩))
  ·refine⟨rfl,rfl,rfl,?_⟩
   have e:sh4 x=(false):=by unfold sh4;rw[g4,g5,g6,g7];rfl
   rw[e]
   (refine Am.Av ?_;repeat (first|exact trivial|refine⟨rfl,?_⟩))
  ·refine⟨rfl,rfl,rfl,?_⟩
   have e:sh4 x=(false):=by unfold sh4;rw[g4,g5,g6];rfl
   rw[e]
   (refine Am.Av ?_;repeat (first|exact trivial|refine⟨rfl,?_⟩))
  ·refine⟨rfl,rfl,rfl,?_⟩
   have e:sh4 x=(false):=by unfold sh4;rw[g4,g5];rfl
   rw[e]
   (refine Am.Av ?_;repeat (first|exact trivial|refine⟨rfl,?_⟩))
  ·refine⟨rfl,rfl,rfl,?_⟩
   have e:sh4 x=(false):=by unfold sh4;rw[g4];rfl
   rw[e]
   (refine Am.Av ?_;repeat (first|exact trivial|refine⟨rfl,?_⟩))
 refine Ec U (fun g4=>?_) (fun g4=>?_)
 ·refine Es ?_
  refine Lq (AJ U pl_167 U U) rfl<|Lq (DC U if_167 U) rfl<|qa rfl<|Ld ?_
  refine Aa (Er U ?_)
  unfold shapeV
  rw[g1,g2,g3,g4];rfl
 skip
 refine E3 [(114,.bool (sh5 x)),(6,.bool (ndV x)),(5,.bool (tgV x)),(4,.bool (csV x)),(3,.bool (rgV x)),(2,.niliface),(1,.ptr 0 0)] (mkS 1 0 [] [(0,some (.cells (encI x) 58 false))]) ?_ ?_
 ·focus
   refine Ao<|Lq (of B1 U) rfl<|Lo (l1 DT DN U) rfl<|Lq (o2 BB U U) rfl<|qm U ?_
   refine Lb U (fun g5=>?_) (fun g5=>?_)
   have h5:=dT g5
   refine Lh U ‹_› (om U)<|Lh U ‹_› (on U)<|Lq (oT U ‹_› U) rfl<|qm U ?_
   refine Lb U (fun g6=>?_) (fun g6=>?_)
   have h6:=Fo g6
   refine Lh U ‹_› (om U)<|Lh U ‹_› (on U)<|Lq (oT U ‹_› U) rfl<|qm U ?_
   refine Lb U (fun g7=>?_) (fun g7=>?_)
   have h7:=Fo g7
   refine Lh U ‹_› (om U)<|Lh U ‹_› (on U)<|Lq (oT U ‹_› U) rfl<|qa rfl<|Ld ?_
   rotate_left
   have h7:=Fp g7
   iterate 2 refine Lk U ‹_› ?_
   refine Lq (oF U ‹_› U) rfl<|qa rfl<|Ld ?_
   rotate_left
   have h6:=Fp g6
   iterate 2 refine Lk U ‹_› ?_
   refine Lq (oF U ‹_› U) rfl<|qm U ?_
   iterate 2 refine Lk U U ?_
   refine Lq (oF U U U) rfl<|qa rfl<|Ld ?_
   rotate_left
   have h5:=dF g5
   iterate 2 refine Lk U ‹_› ?_
   refine Lq (oF U ‹_› U) rfl<|qm U ?_
   iterate 2 refine Lk U U ?_
   refine Lq (oF U U U) rfl<|qm U ?_
   iterate 2 refine Lk U U ?_
   refine Lq (oF U U U) rfl<|qa rfl<|Ld ?_
   rotate_left
  ·refine⟨rfl,rfl,rfl,?_⟩
   have e:sh5 x=(!tgV x):=by unfold sh5;rw[g5,g6,g7];rfl
   rw[e]
   (refine Am.Av ?_;repeat (first|exact trivial|refine⟨rfl,?_⟩))
  ·refine⟨rfl,rfl,rfl,?_⟩
   have e:sh5 x=(false):=by unfold sh5;rw[g5,g6,g7];rfl
   rw[e]
   (refine Am.Av ?_;repeat (first|exact trivial|refine⟨rfl,?_⟩))
  ·refine⟨rfl,rfl,rfl,?_⟩
   have e:sh5 x=(false):=by unfold sh5;rw[g5,g6];rfl
   rw[e]
   (refine Am.Av ?_;repeat (first|exact trivial|refine⟨rfl,?_⟩))
  ·refine⟨rfl,rfl,rfl,?_⟩
   have e:sh5 x=(false):=by unfold sh5;rw[g5];rfl
   rw[e]
   (refine Am.Av ?_;repeat (first|exact trivial|refine⟨rfl,?_⟩))
 refine Ec U (fun g5=>?_) (fun g5=>?_)
 ·refine Es ?_
  refine Lq (of f_58_4 U) rfl<|Lo (l1 ag_37 sz_37 U) rfl<|Lq (of BY U) rfl<|Lo (l1 B3 Bf U) rfl<|Lq (of f_58_6 U) rfl<|Lo (l1 Dn BC U) rfl<|Lq (AJ U pl_119 U U) rfl<|Lq (DC U if_119 U) U ?_
  refine qa rfl<|Ld ?_
  refine Aa (Er U ?_)
  unfold shapeV
  rw[g1,g2,g3,g4,g5];rfl
 skip
 refine E3 [(138,.bool (sh6 x)),(6,.bool (ndV x)),(5,.bool (tgV x)),(4,.bool (csV x)),(3,.bool (rgV x)),(2,.niliface),(1,.ptr 0 0)] (mkS 1 0 [] [(0,some (.cells (encI x) 58 false))]) ?_ ?_
 ·focus
   refine Ao<|Lq (of B1 U) rfl<|Lo (l1 DT DN U) rfl<|Lq (o2 BB U U) rfl<|qm U ?_
   refine Lb U (fun g6=>?_) (fun g6=>?_)
   have h6:=dT g6
   refine Lh U ‹_› (om U)<|Lh U ‹_› (on U)<|Lq (oT U ‹_› U) rfl<|qm U ?_
   refine Lb U (fun g7=>?_) (fun g7=>?_)
   have h7:=Fo g7
   refine Lh U ‹_› (om U)<|Lh U ‹_› (on U)<|Lq (oT U ‹_› U) rfl<|qm U ?_
   refine Lb U (fun g8=>?_) (fun g8=>?_)
   have h8:=Fo g8
   refine Lh U ‹_› (om U)<|Lh U ‹_› (on U)<|Lq (oT U ‹_› U) rfl<|qa rfl<|Ld ?_
   rotate_left
   have h8:=Fp g8
   iterate 2 refine Lk U ‹_› ?_
   refine Lq (oF U ‹_› U) rfl<|qa rfl<|Ld ?_
   rotate_left
   have h7:=Fp g7
   iterate 2 refine Lk U ‹_› ?_
   refine Lq (oF U ‹_› U) rfl<|qm U ?_
   iterate 2 refine Lk U U ?_
   refine Lq (oF U U U) rfl<|qa rfl<|Ld ?_
   rotate_left
   have h6:=dF g6
   iterate 2 refine Lk U ‹_› ?_
   refine Lq (oF U ‹_› U) rfl<|qm U ?_
   iterate 2 refine Lk U U ?_
   refine Lq (oF U U U) rfl<|qm U ?_
   iterate 2 refine Lk U U ?_
   refine Lq (oF U U U) rfl<|qa rfl<|Ld ?_
   rotate_left
  ·refine⟨rfl,rfl,rfl,?_⟩
   have e:sh6 x=(!ndV x):=by unfold sh6;rw[g6,g7,g8];rfl
   rw[e]
   (refine Am.Av ?_;repeat (first|exact trivial|refine⟨rfl,?_⟩))
  ·refine⟨rfl,rfl,rfl,?_⟩
   have e:sh6 x=(false):=by unfold sh6;rw[g6,g7,g8];rfl
   rw[e]
   (refine Am.Av ?_;repeat (first|exact trivial|refine⟨rfl,?_⟩))
  ·refine⟨rfl,rfl,rfl,?_⟩
   have e:sh6 x=(false):=by unfold sh6;rw[g6,g7];rfl
   rw[e]
   (refine Am.Av ?_;repeat (first|exact trivial|refine⟨rfl,?_⟩))
  ·refine⟨rfl,rfl,rfl,?_⟩
   have e:sh6 x=(false):=by unfold sh6;rw[g6];rfl
   rw[e]
   (refine Am.Av ?_;repeat (first|exact trivial|refine⟨rfl,?_⟩))
 refine Ec U (fun g6=>?_) (fun g6=>?_)
 ·refine Es ?_
  refine Lq (of DZ U) rfl<|Lo (l1 B3 Bf U) rfl<|Lq (AJ U pl_121 U U) rfl<|Lq (DC U if_121 U) rfl<|qa rfl<|Ld ?_
  refine Aa (Er U ?_)
  unfold shapeV
  rw[g1,g2,g3,g4,g5,g6];rfl
 refine Ae<|Es<|qa rfl<|Ld ?_
 refine Aa (Er U ?_)
 unfold shapeV
 rw[g1,g2,g3,g4,g5,g6];rfl
section
variable {K : FuncId → List AV → Option AV} {m : Nat}
def idxP (p:Int→Bool) (l:List Int):Int:=if twA (fun x=> !p x) l<l.length then((twA (fun x=> !p x) l:Nat):Int)else-1
theorem idxP_any {p:Int→Bool} {l:List Int}:decide (0≤idxP p l)=l.any p:=by
 rw[twA_any]
 unfold idxP
 by_cases h:twA (fun x=> !p x) l<l.length
 ·rw[if_pos h,decide_eq_true h,decide_eq_true (by omega)]
 ·rw[if_neg h,decide_eq_false h];rfl
theorem index_to (hK:K 120=fun _=>none) {g:FuncId} {cap:List AV} {p:Int→Bool} {st:St} (hb:hasBody (EKm m K) g=true)
 (hcl:∀s',s'.heap=st.heap→s'.next=st.next→∀r,CallTo (EKm m K) g (.int .i64 r::cap) s' (.bool (p r))) (l:List Int) (hn:l.length≤4000):
 CallTo (EKm m K) 120 [recs encZ 1 l,.func (.func g) [] cap] st (.int .i64 (idxP p l)):=by
 refine DD (fn:=Tryz.f120) (by show K 120 _=none;rw[hK]) (by kernel_rfl) U U U U (fun _ _=>rfl) (fun _=>rfl) ?_
 have hle:=twA_le (fun x=> !p x) l
 refine Es<|qa rfl<|Ld<|Ab<|Es<|qm rfl<|Lq (ol D6 U) rfl<|qm U ?_
 refine Ld<|Af ?_
 refine A5 (fun i:Nat=>([(8,.int .i64 (i:Nat)),(7,.int .i64 (l.length:Nat)),(1,.func (.func g) [] cap),(0,recs encZ 1 l)],st.enter)) (fun i=>l.length-i) (fun i=>i≤twA (fun x=> !p x) l) 0 (Qn _) U (by(refine Am.Av ?_;repeat (first|exact trivial|refine⟨rfl,?_⟩))) ?_
 intro i hi
 dsimp only at hi⊢
 by_cases h:i<l.length
 ·have hp:=AC Be h
  have hs:=twA_step (p:=fun x=> !p x) hi (Qi h)
  focus
   refine Es<|Lq (o2 u_3 U U) rfl<|Ld<|Ab ?_
   refine Ec U (fun g1=>?_) (fun g1=>?_)
   have h1:=dT g1
   refine Ae<|Ab<|Af<|Es<|qm rfl<|qa rfl<|Ld<|Es ?_
   iterate 3 refine qm U ?_
   refine Lq (Ag U D6 Bf U U ‹_›) rfl<|Lq (As U U B3 Bf) U ?_
   rotate_left
   have h1:=dF g1
   exact absurd h1 (by omega)
  refine Lo (FE U U U hb U (hcl st.enter U U l[i])) U ?_
  focus
   refine Ld ?_
   refine Ec U (fun g2=>?_) (fun g2=>?_)
   refine Es<|qm rfl<|qa rfl<|Ld ?_
   rotate_left
   refine Ae<|Ao ?_
   refine Lq (A0 (b:=1) U u_3 U U (by first|assumption|omega|(simp only[LL];omega))) U ?_
   refine qm rfl<|Ld ?_
   rotate_left
  ·refine Aa ⟨.inl U,rfl,rfl,_,Aj U U,?_⟩
   have e:i=twA (fun x=> !p x) l:=by
    rw[g2]at hs
    have:=mt hs.2 (by simp);omega
   unfold idxP
   rw[←e,if_pos h];rfl
  ·refine⟨i+1,?_,by show l.length-(i+1)<l.length-i;omega,rfl,rfl,by(refine Am.Av ?_;repeat (first|exact trivial|refine⟨rfl,?_⟩))⟩
   rw[g2]at hs
   have:=hs.1 rfl
   omega
 ·focus
   refine Es<|Lq (o2 u_3 U U) rfl<|Ld<|Ab ?_
   refine Ec U (fun g1=>?_) (fun g1=>?_)
   have h1:=dT g1
   exact absurd h1 (by omega)
   have h1:=dF g1
   refine A9<|Bq rfl<|Es<|qa rfl<|Ld ?_
   rotate_left
  refine Aa ⟨.inl U,rfl,rfl,_,Aj U U,?_⟩
  unfold idxP
  rw[if_neg (by omega)];rfl
theorem containsN_to (hK:K 120=fun _=>none) (hK2:K 70=fun _=>none) {g:FuncId} {cap:List AV} {st:St}:
 CallTo (EKm m K) 70 [.nilslice,.func (.func g) [] cap] st (.bool false):=by
 refine DD (fn:=Tryz.f70) (by show K 70 _=none;rw[hK2]) (by kernel_rfl) U U U U (fun _ _=>rfl) (fun _=>rfl) ?_
 have hi:CallTo (EKm m K) 120 [.nilslice,.func (.func g) [] cap] st.enter (.int .i64 (-1)):=by
  refine DD (fn:=Tryz.f120) (by show K 120 _=none;rw[hK]) (by kernel_rfl) U U U U (fun _ _=>rfl) (fun _=>rfl) ?_
  refine Es<|qa rfl<|Ld<|Ab<|Es<|qm rfl<|Lq (OpQ.lenNil U U U U D6 U) rfl<|qm U ?_
  refine Ld<|Af<|Dp<|Es<|Lq (o2 u_3 U U) rfl<|Ld<|Ab<|Ap U U ?_
  refine A9<|Bq rfl<|Es<|qa rfl<|Ld ?_
  exact Aa ⟨.inl U,rfl,rfl,_,Aj U U,rfl⟩
 refine Es<|qa rfl<|Ld<|Es ?_
 iterate 2 refine qm U ?_
 refine Lo (Ad U U (by kernel_rfl) U hi) rfl<|Lq (o2 u_3 U U) rfl<|qa rfl<|Ld ?_
 exact Aa ⟨.inl U,rfl,rfl,_,Aj U U,rfl⟩
theorem contains_to (hK:K 120=fun _=>none) (hK2:K 70=fun _=>none) {g:FuncId} {cap:List AV} {p:Int→Bool} {st:St} (hb:hasBody (EKm m K) g=true)
 (hcl:∀s',s'.heap=st.heap→s'.next=st.next→∀r,CallTo (EKm m K) g (.int .i64 r::cap) s' (.bool (p r))) (l:List Int) (hn:l.length≤4000):
 CallTo (EKm m K) 70 [recs encZ 1 l,.func (.func g) [] cap] st (.bool (l.any p)):=by
 refine DD (fn:=Tryz.f70) (by show K 70 _=none;rw[hK2]) (by kernel_rfl) U U U U (fun _ _=>rfl) (fun _=>rfl) ?_
 have hi:=index_to hK (st:=st.enter) hb (fun s' h1 h2 r=>hcl s' h1 h2 r) l hn
 refine Es<|qa rfl<|Ld<|Es ?_
 iterate 2 refine qm U ?_
 refine Lo (Ad U U (by kernel_rfl) U hi) rfl<|Lq (o2 u_3 U U) rfl<|qa rfl<|Ld ?_
 refine Aa ⟨.inl U,rfl,rfl,_,Aj U U,?_⟩
 rw[←idxP_any];rfl
end
noncomputable def K11:=addC K10 51 (fun x:InsT=>[.agg (encI x)]) (fun x=>shA (shapeV x))
theorem hit_51 {x:InsT}:K11 51 [.agg (encI x)]=some (shA (shapeV x)):=
 A2 (f:=51) (enc:=fun x:InsT=>[.agg (encI x)]) (res:=fun x=>shA (shapeV x)) (fun a b h=>by rw[encI_inj _ _ (AV.agg.inj (List.cons.inj h).1)]) x
theorem shA_closed (s:ShT):closedV 40 (shA s)=true:=by cases s<;>rfl
theorem all11 (h:KnownF Tryz.prog 10 [] (.bool true)):KnownAll Tryz.prog K11:=Db AB (all10 h) (fun x=>shaped_to x) (fun _=>rfl) (fun _=>shA_closed _)
def encM (op n:Int) (args:List Int):AV:= .agg [.int .i64 op,.int .i64 n,recs encZ 1 args]
theorem mv_pair {cons funs:List NameT} {t n:Int} {k:Nat} (ht:t=6∨t=7∨9≤t∧t≤15):madeV cons funs t n k=(decide (n=0)&&decide ((k:Int)=2)):=by
 unfold madeV
 rw[if_neg (by omega),if_neg (by omega),if_neg (by omega),if_neg (by omega),if_pos ht]
theorem mv_pairT {cons funs:List NameT} {t n:Int} {k:Nat} (ht:t=6∨t=7∨9≤t∧t≤15) (hn:n=0):decide ((k:Int)=2)=madeV cons funs t n k:=by rw[mv_pair ht,decide_eq_true hn];rfl
theorem mv_pairF {cons funs:List NameT} {t n:Int} {k:Nat} (ht:t=6∨t=7∨9≤t∧t≤15) (hn:¬n=0):false=madeV cons funs t n k:=by rw[mv_pair ht,decide_eq_false hn];rfl
theorem mv_none {cons funs:List NameT} {t n:Int} {k:Nat} (ht:¬(t=2∨t=3∨t=4∨t=5∨t=6∨t=7∨9≤t∧t≤15)):false=madeV cons funs t n k:=by
 unfold madeV
 rw[if_neg (by omega),if_neg (by omega),if_neg (by omega),if_neg (by omega),if_neg (by omega)]
theorem named_to (cons funs:List NameT) (op n:Int) (args:List Int) (hc:cons.length≤4000) (hf:funs.length≤4000):CallTo (EK K11) 81 [.agg [recs encN 2 cons,recs encN 2 funs],encM op n args] S0 (.bool (madeV cons funs op n args.length)):=by
 refine Ax (fn:=Tryz.f81) U U (by kernel_rfl) U U U U ?_
 focus
  refine Es<|Lo (AD 1 U U U U) rfl<|Lo (AD 2 U U U U) rfl<|qa rfl<|Ld<|Es<|Lq (of f_119_2 U) rfl<|Lo (l1 Dn BC U) U ?_
  refine Lq (ol D6 U) rfl<|qa rfl<|Ld<|Ab<|Es<|Lq (of f_119_0 U) rfl<|Lo (l1 ag_37 sz_37 U) rfl<|Ld ?_
  refine Af<|Es<|Lq (o2 u_37 U U) rfl<|qa rfl<|Ld ?_
  refine Ec U (fun g1=>?_) (fun g1=>?_)
  have h1:=dT g1
  refine Es<|Lq (of Di U) rfl<|Lo (l1 B3 Bf U) U ?_
  refine Lo (Ad U U (by kernel_rfl) U (Ac (hit_37))) rfl<|qm U ?_
  refine Lb U (fun g2=>?_) (fun g2=>?_)
  refine Lh U ‹_› (om U)<|Lh U ‹_› (o2 u_3 U U)<|Lq (oT U ‹_› U) rfl<|qa rfl<|Ld ?_
  refine Aa (Er U ?_)
  refine Ah ?_
  rotate_left
  iterate 2 refine Lk U ‹_› ?_
  refine Lq (oF U ‹_› U) rfl<|qa rfl<|Ld ?_
  refine Aa (Er U ?_)
  refine Ah ?_
  rotate_left
  have h1:=dF g1
  refine Es<|Lq (o2 u_37 U U) rfl<|qa rfl<|Ld ?_
  refine Ec U (fun g3=>?_) (fun g3=>?_)
  have h3:=dT g3
  refine Es<|Lq (of Di U) rfl<|Lo (l1 B3 Bf U) rfl<|Lq (of BU U) rfl<|Lo (l1 B4 B2 U) rfl<|Lq (ol DY U) rfl<|Lq (EL U u_3 U U (by omega)) U ?_
  refine Lo (Ad U U (by kernel_rfl) U (Ac (hit_37))) rfl<|qm U ?_
  refine Lb U (fun g4=>?_) (fun g4=>?_)
  refine Lh U ‹_› (om U)<|Lh U ‹_› (of BU U)<|Lg U ‹_› (l1 B4 B2 U)<|Lh U ‹_› (of Di U)<|Lg U ‹_› (l1 B3 Bf U) ?_
  rotate_left
  iterate 9 refine Lk U ‹_› ?_
  refine Lq (oF U ‹_› U) rfl<|qa rfl<|Ld ?_
  refine Aa (Er U ?_)
  refine Ah ?_
  rotate_left
  have h3:=dF g3
  refine Es<|Lq (o2 u_37 U U) rfl<|qa rfl<|Ld ?_
  refine Ec U (fun g5=>?_) (fun g5=>?_)
  have h5:=dT g5
  refine Es<|Lq (of Di U) rfl<|Lo (l1 B3 Bf U) rfl<|Lq (of BT U) rfl<|Lo (l1 B4 B2 U) rfl<|Lq (ol DY U) rfl<|Lq (EL U u_3 U U (by omega)) U ?_
  refine Lo (Ad U U (by kernel_rfl) U (Ac (hit_37))) rfl<|qm U ?_
  refine Lb U (fun g6=>?_) (fun g6=>?_)
  refine Lh U ‹_› (om U)<|Lh U ‹_› (of BT U)<|Lg U ‹_› (l1 B4 B2 U)<|Lh U ‹_› (of Di U)<|Lg U ‹_› (l1 B3 Bf U) ?_
  rotate_left
  iterate 9 refine Lk U ‹_› ?_
  refine Lq (oF U ‹_› U) rfl<|qa rfl<|Ld ?_
  refine Aa (Er U ?_)
  refine Ah ?_
  rotate_left
  have h5:=dF g5
  refine Es<|Lq (o2 u_37 U U) rfl<|qa rfl<|Ld ?_
  refine Ec U (fun g7=>?_) (fun g7=>?_)
  have h7:=dT g7
  refine Es<|Lq (of Di U) rfl<|Lo (l1 B3 Bf U) rfl<|Lq (of BT U) rfl<|Lo (l1 B4 B2 U) rfl<|Lq (ol DY U) rfl<|Lq (EL U u_3 U U (by omega)) U ?_
  refine Lo (Ad U U (by kernel_rfl) U (Ac (hit_37))) rfl<|qm U ?_
  refine Lb U (fun g8=>?_) (fun g8=>?_)
  refine Lh U ‹_› (om U)<|Lh U ‹_› (of BT U)<|Lg U ‹_› (l1 B4 B2 U)<|Lh U ‹_› (of Di U)<|Lg U ‹_› (l1 B3 Bf U) ?_
  rotate_left
  iterate 9 refine Lk U ‹_› ?_
  refine Lq (oF U ‹_› U) rfl<|qa rfl<|Ld ?_
  refine Aa (Er U ?_)
  refine Ah ?_
  rotate_left
  have h7:=dF g7
  refine Ab<|Es<|Lq (o2 u_37 U U) rfl<|qa rfl<|Ld ?_
  refine Ec U (fun g9=>?_) (fun g9=>?_)
  have h9:=dT g9
  refine Ae<|Ai U ‹_›<|Es<|Lq (of Di U) rfl<|Lo (l1 B3 Bf U) rfl<|Lq (o2 u_3 U U) rfl<|qm U ?_
  refine Lb U (fun g10=>?_) (fun g10=>?_)
  have h10:=dT g10
  refine Lh U ‹_› (om U)<|Lh U ‹_› (o2 u_3 U U)<|Lq (oT U ‹_› U) rfl<|qa rfl<|Ld ?_
  refine Aa (Er U ?_)
  refine Ah ?_
  rotate_left
  have h10:=dF g10
  iterate 2 refine Lk U ‹_› ?_
  refine Lq (oF U ‹_› U) rfl<|qa rfl<|Ld ?_
  refine Aa (Er U ?_)
  refine Ah ?_
  rotate_left
  have h9:=dF g9
  refine Es<|Lq (o2 u_37 U U) rfl<|qa rfl<|Ld ?_
  refine Ec U (fun g11=>?_) (fun g11=>?_)
  have h11:=dT g11
  refine Ae<|Ai U ‹_›<|Es<|Lq (of Di U) rfl<|Lo (l1 B3 Bf U) rfl<|Lq (o2 u_3 U U) rfl<|qm U ?_
  refine Lb U (fun g12=>?_) (fun g12=>?_)
  have h12:=dT g12
  refine Lh U ‹_› (om U)<|Lh U ‹_› (o2 u_3 U U)<|Lq (oT U ‹_› U) rfl<|qa rfl<|Ld ?_
  refine Aa (Er U ?_)
  refine Ah ?_
  rotate_left
  have h12:=dF g12
  iterate 2 refine Lk U ‹_› ?_
  refine Lq (oF U ‹_› U) rfl<|qa rfl<|Ld ?_
  refine Aa (Er U ?_)
  refine Ah ?_
  rotate_left
  have h11:=dF g11
  refine Es<|Lq (o2 u_37 U U) rfl<|qa rfl<|Ld ?_
  refine Ec U (fun g13=>?_) (fun g13=>?_)
  have h13:=dT g13
  refine Ae<|Ai U ‹_›<|Es<|Lq (of Di U) rfl<|Lo (l1 B3 Bf U) rfl<|Lq (o2 u_3 U U) rfl<|qm U ?_
  refine Lb U (fun g14=>?_) (fun g14=>?_)
  have h14:=dT g14
  refine Lh U ‹_› (om U)<|Lh U ‹_› (o2 u_3 U U)<|Lq (oT U ‹_› U) rfl<|qa rfl<|Ld ?_
  refine Aa (Er U ?_)
  refine Ah ?_
  rotate_left
  have h14:=dF g14
  iterate 2 refine Lk U ‹_› ?_
  refine Lq (oF U ‹_› U) rfl<|qa rfl<|Ld ?_
  refine Aa (Er U ?_)
  refine Ah ?_
  rotate_left
  have h13:=dF g13
  refine Es<|Lq (o2 u_37 U U) rfl<|qa rfl<|Ld ?_
  refine Ec U (fun g15=>?_) (fun g15=>?_)
  have h15:=dT g15
  refine Ae<|Ai U ‹_›<|Es<|Lq (of Di U) rfl<|Lo (l1 B3 Bf U) rfl<|Lq (o2 u_3 U U) rfl<|qm U ?_
  refine Lb U (fun g16=>?_) (fun g16=>?_)
  have h16:=dT g16
  refine Lh U ‹_› (om U)<|Lh U ‹_› (o2 u_3 U U)<|Lq (oT U ‹_› U) rfl<|qa rfl<|Ld ?_
  refine Aa (Er U ?_)
  refine Ah ?_
  rotate_left
  have h16:=dF g16
  iterate 2 refine Lk U ‹_› ?_
  refine Lq (oF U ‹_› U) rfl<|qa rfl<|Ld ?_
  refine Aa (Er U ?_)
  refine Ah ?_
  rotate_left
  have h15:=dF g15
  refine Es<|Lq (o2 u_37 U U) rfl<|qa rfl<|Ld ?_
  refine Ec U (fun g17=>?_) (fun g17=>?_)
  have h17:=dT g17
  refine Ae<|Ai U ‹_›<|Es<|Lq (of Di U) rfl<|Lo (l1 B3 Bf U) rfl<|Lq (o2 u_3 U U) rfl<|qm U ?_
  refine Lb U (fun g18=>?_) (fun g18=>?_)
  have h18:=dT g18
  refine Lh U ‹_› (om U)<|Lh U ‹_› (o2 u_3 U U)<|Lq (oT U ‹_› U) rfl<|qa rfl<|Ld ?_
  refine Aa (Er U ?_)
  refine Ah ?_
  rotate_left
  have h18:=dF g18
  iterate 2 refine Lk U ‹_› ?_
  refine Lq (oF U ‹_› U) rfl<|qa rfl<|Ld ?_
  refine Aa (Er U ?_)
  refine Ah ?_
  rotate_left
  have h17:=dF g17
  refine Es<|Lq (o2 u_37 U U) rfl<|qa rfl<|Ld ?_
  refine Ec U (fun g19=>?_) (fun g19=>?_)
  have h19:=dT g19
  refine Ae<|Ai U ‹_›<|Es<|Lq (of Di U) rfl<|Lo (l1 B3 Bf U) rfl<|Lq (o2 u_3 U U) rfl<|qm U ?_
  refine Lb U (fun g20=>?_) (fun g20=>?_)
  have h20:=dT g20
  refine Lh U ‹_› (om U)<|Lh U ‹_› (o2 u_3 U U)<|Lq (oT U ‹_› U) rfl<|qa rfl<|Ld ?_
  refine Aa (Er U ?_)
  refine Ah ?_
  rotate_left
  have h20:=dF g20
  iterate 2 refine Lk U ‹_› ?_
  refine Lq (oF U ‹_› U) rfl<|qa rfl<|Ld ?_
  refine Aa (Er U ?_)
  refine Ah ?_
  rotate_left
  have h19:=dF g19
  refine Es<|Lq (o2 u_37 U U) rfl<|qa rfl<|Ld ?_
  refine Ec U (fun g21=>?_) (fun g21=>?_)
  have h21:=dT g21
  refine Ae<|Ai U ‹_›<|Es<|Lq (of Di U) rfl<|Lo (l1 B3 Bf U) rfl<|Lq (o2 u_3 U U) rfl<|qm U ?_
  refine Lb U (fun g22=>?_) (fun g22=>?_)
  have h22:=dT g22
  refine Lh U ‹_› (om U)<|Lh U ‹_› (o2 u_3 U U)<|Lq (oT U ‹_› U) rfl<|qa rfl<|Ld ?_
  refine Aa (Er U ?_)
  refine Ah ?_
  rotate_left
  have h22:=dF g22
  iterate 2 refine Lk U ‹_› ?_
  refine Lq (oF U ‹_› U) rfl<|qa rfl<|Ld ?_
  refine Aa (Er U ?_)
  refine Ah ?_
  rotate_left
  have h21:=dF g21
  refine Es<|Lq (o2 u_37 U U) rfl<|qa rfl<|Ld ?_
  refine Ec U (fun g23=>?_) (fun g23=>?_)
  have h23:=dT g23
  refine Ae<|Ai U ‹_›<|Es<|Lq (of Di U) rfl<|Lo (l1 B3 Bf U) rfl<|Lq (o2 u_3 U U) rfl<|qm U ?_
  refine Lb U (fun g24=>?_) (fun g24=>?_)
  have h24:=dT g24
  refine Lh U ‹_› (om U)<|Lh U ‹_› (o2 u_3 U U)<|Lq (oT U ‹_› U) rfl<|qa rfl<|Ld ?_
  refine Aa (Er U ?_)
  refine Ah ?_
  rotate_left
  have h24:=dF g24
  iterate 2 refine Lk U ‹_› ?_
  refine Lq (oF U ‹_› U) rfl<|qa rfl<|Ld ?_
  refine Aa (Er U ?_)
  refine Ah ?_
  rotate_left
  have h23:=dF g23
  refine Ao<|Lq (o2 u_37 U U) rfl<|qa rfl<|Ld ?_
  refine Ec U (fun g25=>?_) (fun g25=>?_)
  have h25:=dT g25
  refine Es<|Lq (of Di U) rfl<|Lo (l1 B3 Bf U) rfl<|Lq (o2 u_3 U U) rfl<|qm U ?_
  refine Lb U (fun g26=>?_) (fun g26=>?_)
  have h26:=dT g26
  refine Lh U ‹_› (om U)<|Lh U ‹_› (o2 u_3 U U)<|Lq (oT U ‹_› U) rfl<|qa rfl<|Ld ?_
  refine Aa (Er U ?_)
  refine Ah ?_
  rotate_left
  have h26:=dF g26
  iterate 2 refine Lk U ‹_› ?_
  refine Lq (oF U ‹_› U) rfl<|qa rfl<|Ld ?_
  refine Aa (Er U ?_)
  refine Ah ?_
  rotate_left
  have h25:=dF g25
  refine Ae<|Es<|qa rfl<|Ld ?_
  refine Aa (Er U ?_)
  refine Ah ?_
  rotate_left
 ·simp only[madeV,h1,if_true,g2,Bool.and_true]
 ·simp only[madeV,h1,if_true,g2,Bool.and_false]
 ·obtain⟨hz,hlt⟩:=inV_iff.1 g4
  have hp:=AC AU (l:=cons) (i:=n.toNat) (by omega)
  refine Lh U ‹_› (BV U DY BS U U (by first|assumption|omega) ‹_›)<|Lh U ‹_› (A6 U f_54_1 U (Qc U))<|Lh U ‹_› (As U U B3 Bf)<|Lh U ‹_› (o2 u_3 U U)<|Lq (oT U ‹_› U) rfl<|qa rfl<|Ld ?_
  refine Aa (Er U ?_)
  refine Ah ?_
  simp only[madeV,h3,g4,arity,Dh (l:=cons) (i:=n.toNat) (d:=([],0)) (by omega)];rfl
 ·simp only[madeV,h3,g4];rfl
 ·obtain⟨hz,hlt⟩:=inV_iff.1 g6
  have hp:=AC AU (l:=funs) (i:=n.toNat) (by omega)
  refine Lh U ‹_› (BV U DY BS U U (by first|assumption|omega) ‹_›)<|Lh U ‹_› (A6 U f_54_1 U (Qc U))<|Lh U ‹_› (As U U B3 Bf)<|Lh U ‹_› (o2 u_3 U U)<|Lq (oT U ‹_› U) rfl<|qa rfl<|Ld ?_
  refine Aa (Er U ?_)
  refine Ah ?_
  simp only[madeV,h5,g6,arity,Dh (l:=funs) (i:=n.toNat) (d:=([],0)) (by omega)];rfl
 ·simp only[madeV,h5,g6];rfl
 ·obtain⟨hz,hlt⟩:=inV_iff.1 g8
  have hp:=AC AU (l:=funs) (i:=n.toNat) (by omega)
  refine Lh U ‹_› (BV U DY BS U U (by first|assumption|omega) ‹_›)<|Lh U ‹_› (A6 U f_54_1 U (Qc U))<|Lh U ‹_› (As U U B3 Bf)<|Lh U ‹_› (o2 u_3 U U)<|Lq (oT U ‹_› U) rfl<|qa rfl<|Ld ?_
  refine Aa (Er U ?_)
  refine Ah ?_
  simp only[madeV,h7,g8,arity,Dh (l:=funs) (i:=n.toNat) (d:=([],0)) (by omega)];rfl
 ·simp only[madeV,h7,g8];rfl
 all_goals first|exact mv_pairT (by omega) ‹_›|exact mv_pairF (by omega) ‹_›|exact mv_none (by omega)
abbrev MakT:= {p:List NameT×List NameT×Int×Int×List Int//p.1.length≤4000∧p.2.1.length≤4000}
noncomputable def K12:=addC K11 81 (fun p:MakT=>[.agg [recs encN 2 p.1.1,recs encN 2 p.1.2.1],encM p.1.2.2.1 p.1.2.2.2.1 p.1.2.2.2.2]) (fun p=> .bool (madeV p.1.1 p.1.2.1 p.1.2.2.1 p.1.2.2.2.1 p.1.2.2.2.2.length))
theorem hit_81 {cons funs:List NameT} {op n:Int} {args:List Int} (h1:cons.length≤4000) (h2:funs.length≤4000):K12 81 [.agg [recs encN 2 cons,recs encN 2 funs],encM op n args]=some (.bool (madeV cons funs op n args.length)):=
 A2 (f:=81) (enc:=fun p:MakT=>[.agg [recs encN 2 p.1.1,recs encN 2 p.1.2.1],encM p.1.2.2.1 p.1.2.2.2.1 p.1.2.2.2.2]) (res:=fun p=> .bool (madeV p.1.1 p.1.2.1 p.1.2.2.1 p.1.2.2.2.1 p.1.2.2.2.2.length)) (by
  rintro⟨⟨a,b,c,d,e⟩,_⟩ ⟨⟨a',b',c',d',e'⟩,_⟩ h
  simp only[List.cons.injEq,and_true,AV.agg.injEq,encM,AV.int.injEq,true_and]at h
  obtain⟨⟨h1,h2⟩,rfl,rfl,h5⟩:=h
  obtain rfl:=B0 Dr AU h1
  obtain rfl:=B0 Dr AU h2
  obtain rfl:=B0 D8 Be h5
  rfl) ⟨(cons,funs,op,n,args),h1,h2⟩
theorem all12 (h:KnownF Tryz.prog 10 [] (.bool true)):KnownAll Tryz.prog K12:=Db AB (all11 h) (fun p:MakT=>named_to p.1.1 p.1.2.1 p.1.2.2.1 p.1.2.2.2.1 p.1.2.2.2.2 p.2.1 p.2.2) (fun _=>rfl) (fun _=>rfl)
theorem regs1_to (r:Int) (l:List AltT):CallTo (EK K12) 341 [.agg [.int .i64 r,recs encA 2 l]] S0 (recs encZ 1 [r]):=by
 refine Ax (fn:=Tryz.f341) U U (by kernel_rfl) U U U rfl<|Es<|Lo (AD 1 U U U U) rfl<|qa rfl<|Ld<|Es<|Lq (of f_114_0 U) rfl<|Lo (l1 B3 Bf U) U ?_
 refine Lo (DW 2 U D6 Bf z_3 U U U U) rfl<|qa rfl<|Ld ?_
 refine Aa (Er U ?_)
 rfl
noncomputable def K12a:=addC K12 341 (fun p:Int×List AltT=>[.agg [.int .i64 p.1,recs encA 2 p.2]]) (fun p=>recs encZ 1 [p.1])
theorem hit_341 {r:Int} {l:List AltT}:K12a 341 [.agg [.int .i64 r,recs encA 2 l]]=some (recs encZ 1 [r]):=
 A2 (f:=341) (enc:=fun p:Int×List AltT=>[.agg [.int .i64 p.1,recs encA 2 p.2]]) (res:=fun p=>recs encZ 1 [p.1]) (by
  rintro⟨a,b⟩ ⟨c,d⟩ h
  simp only[List.cons.injEq,and_true,AV.agg.injEq,AV.int.injEq,true_and]at h
  obtain⟨rfl,_⟩:=h
  rfl) (r,l)
theorem regs6_to (r:Int):CallTo (EK K12a) 344 [.agg [.int .i64 r]] S0 (recs encZ 1 [r]):=by
 refine Ax (fn:=Tryz.f344) U U (by kernel_rfl) U U U rfl<|Es<|Lo (AD 1 U U U U) rfl<|qa rfl<|Ld<|Es<|Lq (of f_121_0 U) rfl<|Lo (l1 B3 Bf U) U ?_
 refine Lo (DW 2 U D6 Bf z_3 U U U U) rfl<|qa rfl<|Ld ?_
 refine Aa (Er U ?_)
 rfl
noncomputable def K13:=addC K12a 344 (fun r:Int=>[.agg [.int .i64 r]]) (fun r=>recs encZ 1 [r])
theorem hit_344 {r:Int}:K13 344 [.agg [.int .i64 r]]=some (recs encZ 1 [r]):=
 A2 (f:=344) (enc:=fun r:Int=>[.agg [.int .i64 r]]) (res:=fun r=>recs encZ 1 [r]) (by
  intro a b h
  simp only[List.cons.injEq,and_true,AV.agg.injEq,AV.int.injEq,true_and]at h
  rw[h]) r
theorem all13 (h:KnownF Tryz.prog 10 [] (.bool true)):KnownAll Tryz.prog K13:=
 Db AB (Db AB (all12 h) (fun p:Int×List AltT=>regs1_to p.1 p.2) (fun _=>rfl) (fun _=>rfl)) (fun r=>regs6_to r) (fun _=>rfl) (fun _=>rfl)
theorem all_range {α:Type} (l:List α) (d:α) (f:α→Bool):l.all f=(List.range l.length).all fun i=>f (l.getD i d):=by
 rw[Bool.eq_iff_iff,List.all_eq_true,List.all_eq_true]
 constructor
 ·intro h i hi
  rw[Dh (List.mem_range.1 hi)]
  exact h _ (Ql _)
 ·intro h x hx
  obtain⟨i,hi,rfl⟩:=List.mem_iff_getElem.1 hx
  have:=h i (List.mem_range.2 hi)
  rwa[Dh hi]at this
theorem bad_to (r:Int) (s:St):CallTo (EK K13) 78 [.int .i64 r] s (.bool (!inV r 0 59)):=by
 refine DD (fn:=Tryz.f78) U (by kernel_rfl) U U U U (fun _ _=>rfl) (fun _=>rfl)<|Es<|qa rfl<|Ld<|Es<|qm U ?_
 refine Lo (Ad U U (by kernel_rfl) U (Ac (hit_37))) rfl<|Lq (on U) rfl<|qa rfl<|Ld ?_
 exact Aa ⟨.inl U,rfl,rfl,_,Aj U U,rfl⟩
def tgt (c:CodeT) (k:Nat) (n:Int):Bool:=inV n ((k+1:Nat):Int) ((c.ins.length-1:Nat):Int)
theorem target_to {c:CodeT} {k:Nat} (hk:k<c.ins.length) (hn:c.ins.length≤4000) {s:St} {b0 b1:Nat} (h0:s.heap.get b0=some (.cells (encC c) 28 false)) (h1:s.heap.get b1=some (.cells [.int .i64 (k:Nat)] 3 false)) (n:Int):
 CallTo (EK K13) 79 [.int .i64 n,.ptr b1 0,.ptr b0 0] s (.bool (tgt c k n)):=by
 refine DD (fn:=Tryz.f79) U (by kernel_rfl) U U U U (fun _ _=>rfl) (fun _=>rfl) ?_
 have h0':s.enter.heap.get b0=some (.cells (encC c) 28 false):=h0
 have h1':s.enter.heap.get b1=some (.cells [.int .i64 (k:Nat)] 3 false):=h1
 refine Es<|qa rfl<|Ld<|Es<|qm rfl<|Lo (At U U (An B3 Bf ‹_› U)) U ?_
 refine Lq (A0 (b:=1) U u_3 U U (by first|assumption|omega|(simp only[LL];omega))) U ?_
 refine Lq (of Bp U) rfl<|Lo (At U U (An Du Dc ‹_› U)) rfl<|Lq (ol u_25 U) rfl<|Lq (DV (b:=1) U u_3 U U (by omega)) U ?_
 refine Lo (Ad U U (by kernel_rfl) U (Ac (hit_37))) rfl<|qa rfl<|Ld ?_
 exact Aa ⟨.inl U,rfl,rfl,_,Aj U U,rfl⟩
theorem untarget_to {c:CodeT} {k:Nat} (hk:k<c.ins.length) (hn:c.ins.length≤4000) {s:St} {b0 b1 b2:Nat} (h0:s.heap.get b0=some (.cells (encC c) 28 false)) (h1:s.heap.get b1=some (.cells [.int .i64 (k:Nat)] 3 false))
 (h2:s.heap.get b2=some (.cells [.func (.func 79) [] [.ptr b1 0,.ptr b0 0]] 146 false)) (n:Int):
 CallTo (EK K13) 80 [.int .i64 n,.ptr b2 0] s (.bool (!tgt c k n)):=by
 refine DD (fn:=Tryz.f80) U (by kernel_rfl) U U U U (fun _ _=>rfl) (fun _=>rfl) ?_
 have h2':s.enter.heap.get b2=some (.cells [.func (.func 79) [] [.ptr b1 0,.ptr b0 0]] 146 false):=h2
 have ht:=target_to hk hn (s:=s.enter) h0 h1 n
 refine Es<|qa rfl<|Ld<|Es<|Lo (At U U (An ag_146 sz_146 ‹_› U)) rfl<|qm rfl<|Lo (FE U U U (by kernel_rfl) U ht) rfl<|Lq (on U) U ?_
 refine qa rfl<|Ld ?_
 exact Aa ⟨.inl U,rfl,rfl,_,Aj U U,rfl⟩
theorem regsV_any (l:List Int):(l.any fun r=> !inV r 0 59)= !regsV l:=by
 unfold regsV
 rw[←List.not_all_eq_any_not]
 congr 1
 exact all_range l 0 (fun r=>inV r 0 59)
theorem run_70 {l:List Int} {s:St} (hn:l.length≤4000):CallTo (EK K13) 70 [recs encZ 1 l,.func (.func 78) [] []] s (.bool (!regsV l)):=by
 rw[←regsV_any]
 exact contains_to U U (by kernel_rfl) (fun s' _ _ r=>bad_to r s') l hn
def insS (c:CodeT) (k:Nat):ShT→Bool
 | .looks r l=>inV r 0 59&&altsV c.cons.length c.ins.length k l
 | .goes l=>targetsV c.ins.length k l
 | .fails=>true
 | .frees=>true
 | .makes o n l=>regsV l&&madeV c.cons c.funs o n l.length
 | .enters r=>inV r 0 59
 | .no=>false
theorem tg_eq (x:InsT):(!tgV x)=decide ((x.to.length:Int)=0):=by unfold tgV;rw[len_pos,Bool.not_not]
theorem cs_eq (x:InsT):(!csV x)=decide ((x.alts.length:Int)=0):=by unfold csV;rw[len_pos,Bool.not_not]
theorem rg_eq (x:InsT):(!rgV x)=decide (x.a=0):=by unfold rgV;rw[Bool.not_not]
theorem nd_eq (x:InsT):(!ndV x)=nodeV x:=by unfold ndV;rw[Bool.not_not]
theorem Ee (c:CodeT) (k:Nat) (x:InsT):insV c k x=insS c k (shapeV x):=by
 unfold shapeV
 unfold sh1 sh2 sh3 sh4 sh5 sh6
 simp only[tg_eq,cs_eq,rg_eq,nd_eq]
 by_cases h1:x.op=1
 ·rw[insV_1 h1];simp only[h1]
  cases nodeV x<;>cases decide ((x.to.length:Int)=0)<;>rfl
 by_cases h2:x.op=2
 ·rw[insV_2 h2];simp only[h2]
  cases nodeV x<;>cases decide ((x.alts.length:Int)=0)<;>cases decide (x.a=0)<;>rfl
 by_cases h3:x.op=3
 ·rw[insV_3 (.inl h3)];simp only[h3]
  cases nodeV x<;>cases decide ((x.alts.length:Int)=0)<;>cases decide (x.a=0)<;>cases decide ((x.to.length:Int)=0)<;>rfl
 by_cases h4:x.op=4
 ·rw[insV_3 (.inr h4)];simp only[h4]
  cases nodeV x<;>cases decide ((x.alts.length:Int)=0)<;>cases decide (x.a=0)<;>cases decide ((x.to.length:Int)=0)<;>rfl
 by_cases h5:x.op=5
 ·rw[insV_5 h5];simp only[h5]
  cases decide ((x.alts.length:Int)=0)<;>cases decide (x.a=0)<;>cases decide ((x.to.length:Int)=0)<;>rfl
 by_cases h6:x.op=6
 ·rw[insV_6 h6];simp only[h6]
  cases nodeV x<;>cases decide ((x.alts.length:Int)=0)<;>cases decide ((x.to.length:Int)=0)<;>first|rfl|(cases inV x.a 0 59<;>rfl)
 rw[insV_0 (by omega)];simp only[h1,h2,h3,h4,h5,h6,decide_false,Bool.false_and]
 rfl
theorem regsV_one (r:Int):regsV [r]=inV r 0 59:=by
 show((List.range 1).all _)=_
 simp[List.range_succ]
theorem runb_70 {s:St}:CallTo (EK K13) 70 [.nilslice,.func (.func 78) [] []] s (.bool false):=containsN_to rfl rfl
theorem shape_looks {x:InsT} {r:Int} {l:List AltT} (h:shapeV x= .looks r l):l=x.alts:=by
 unfold shapeV at h
 repeat (split at h;first|(cases h;rfl)|cases h|skip)
 all_goals cases h
theorem shape_goes {x:InsT} {l:List Int} (h:shapeV x= .goes l):l=x.to:=by
 unfold shapeV at h
 repeat (split at h;first|(cases h;rfl)|cases h|skip)
 all_goals cases h
theorem shape_makes {x:InsT} {o n:Int} {l:List Int} (h:shapeV x= .makes o n l):l=x.args:=by
 unfold shapeV at h
 repeat (split at h;first|(cases h;rfl)|cases h|skip)
 all_goals cases h
theorem instr_looks (c:CodeT) (k:Nat) (hf:Fits c) (hk:k<c.ins.length) (r:Int) (l:List AltT) (hs:shapeV c.ins[k]= .looks r l):CallTo (EK K13) 38 [.agg (encC c),.int .i64 (k:Nat)] S0 (.bool (insV c k c.ins[k])):=by
 refine Ax (fn:=Tryz.f38) U U (by kernel_rfl) U U U U ?_
 have hp0:=AC Ds hk
 have ha:=hf.args _ (Ql hk)
 have hk1:=hf.cons
 have hk2:=hf.funs
 have hk3:=hf.ins
 have hto:=hf.to _ (Ql hk)
 have hal:=hf.alts _ (Ql hk)
 generalize hx:c.ins[k]=x at*
 refine Es<|Lo (AD 1 U U U U) rfl<|Lo (AD 2 U U U U) rfl<|qa rfl<|Ld<|Es<|Lq (of Bp U) rfl<|Lo (l1 Du Dc U) U ?_
 refine Lo (l1 B3 Bf U) rfl<|Lq (Ag U u_25 AP U U ‹_›) rfl<|Lq (Bb U U Dy AP (Qc U)) U ?_
 refine Lo (Ad U U (by kernel_rfl) U (Ac (hit_51))) rfl<|qa rfl<|Ld<|Ab ?_
 rw[hs]
 obtain rfl:=shape_looks hs
 have hes:=Ee c k x
 rw[hs]at hes
 generalize x.alts=l at*
 focus
  refine Es<|qm rfl<|Lq (E2 (neg:=false) U if_111 U U U) rfl<|qm rfl<|Lh U U (om U) ?_
  refine Lg U U (OpL.invoke U U U U m_114_registers (by kernel_rfl) U (Ac (hit_341))) ?_
  refine Lg U U (Ad U U (by kernel_rfl) U (run_70 (by first|assumption|omega|(simp only[LL];omega)))) ?_
  refine Lq (oF U U U) rfl<|Ld ?_
  refine Ec U (fun g1=>?_) (fun g1=>?_)
  have h1:=Fo g1
  refine Es<|qa rfl<|Ld ?_
  refine Aa (Er U ?_)
  refine Ah ?_
  rotate_left
  have h1:=Fp g1
  refine Ae<|Es<|Lq (Bk U U U) rfl<|Lo (AE 3 U z_146 U) rfl<|Ak (A4 U sz_146 U U U U U U) U rfl<|Ld<|Ab<|Es ?_
  refine qm rfl<|Ld<|Af<|Es<|Lq (Bj U if_114 z_114 U U) U ?_
  iterate 2 refine Lq (oe U) U ?_
  refine Ld<|Ai U rfl<|Es<|Lo (AE 4 U z_114 U) rfl<|Ak (A4 U sz_114 U U U U U U) U rfl<|Ld<|Es<|Lq (of f_114_1 U) U ?_
  refine Lo (l1 ag_56 E7 U) rfl<|Lq (ol u_56 U) rfl<|qm rfl<|Ld<|Af ?_
  rotate_left
 ·rw[hes,insS,←regsV_one,h1];rfl
 refine A5 (fun y:Nat×St=>([(33,.int .i64 (y.1:Nat)),(32,.int .i64 (l.length:Nat)),(31,recs encA 2 l),(7,.ptr 3 0),(6,.ptr 2 0),(4,.bool false),(2,.ptr 0 0)],y.2)) (fun y=>l.length-y.1)
  (fun y=>y.1≤l.length∧(List.range y.1).all (altAt c.cons.length c.ins.length k l)=true∧(y.2.heap.get 0=some (.cells (encC c) 28 false)∧y.2.heap.get 1=some (.cells [.int .i64 (k:Nat)] 3 false)∧y.2.heap.get 2=some (.cells [.func (.func 79) [] [.ptr 1 0,.ptr 0 0]] 146 false)∧y.2.heap.get 3=some (.cells [.int .i64 r,recs encA 2 l] 114 false))∧4≤y.2.next∧y.2.bound=0∧y.2.log=[])
  (0,mkS 4 0 [] [(3,some (.cells [.int .i64 r,recs encA 2 l] 114 false)),(3,some (.cells [.int .i64 0,.nilslice] 114 false)),(2,some (.cells [.func (.func 79) [] [.ptr 1 0,.ptr 0 0]] 146 false)),(2,some (.cells [.nilfunc] 146 false)),(1,some (.cells [.int .i64 (k:Nat)] 3 false)),(0,some (.cells (encC c) 28 false))]) ⟨Qn _,rfl,⟨Dx 0,Dx 1,Dx 2,Dx 3⟩,Qj _,rfl,rfl⟩ rfl (by(refine Am.Av ?_;repeat (first|exact trivial|refine⟨rfl,?_⟩))) ?_
 rintro⟨i,st⟩ ⟨hi,hall,⟨hg0,hg1,hg2,hg3⟩,hn,hb,hlg⟩
 dsimp only at hi hall hg0 hg1 hg2 hg3 hn hb hlg⊢
 by_cases h:i<l.length
 ·have hp:=AC EU h
  have hp1:=AC EU (l:=l) (i:=i-1) (by omega)
  have hat:altAt c.cons.length c.ins.length k l i=((inV l[i].1 0 (c.cons.length-1)&& !(decide (0<(i:Int))&&decide (l[i].1≤l[i-1].1)))&&tgt c k l[i].2):=by
   unfold altAt
   rw[Dh h,Dh (by omega)];rfl
  have hno:altAt c.cons.length c.ins.length k l i=false→false=altsV c.cons.length c.ins.length k l:=fun hf=>(ra_no h hf).symm
  obtain⟨hc1,hc2,hc3,hc4,hc5,hc6,hc7⟩:=copied (st:=st) (z:=[.int .i64 0,.int .i64 0]) (cs:=encA l[i]) (T:=60)
  have hlog:=(hc6 (by omega)).trans hlg
  have hbd:=hc5.trans hb
  have hg0':=(hc4 0 (by omega)).trans hg0
  have hg1':=(hc4 1 (by omega)).trans hg1
  have hg2':=(hc4 2 (by omega)).trans hg2
  have hg3':=(hc4 3 (by omega)).trans hg3
  have hno2:altAt c.cons.length c.ins.length k l i=false→false=insV c k x:=fun hf=>by rw[hes,insS,←hno hf,Bool.and_false]
  focus
   refine Es<|Lq (o2 u_3 U U) rfl<|Ld<|Ab ?_
   refine Ec U (fun g2=>?_) (fun g2=>?_)
   have h2:=dT g2
   refine Ae<|Ab<|Af<|Es<|qm rfl<|Lq (Ag U u_56 sz_60 U U ‹_›) rfl<|Lq (Bb U U ag_60 sz_60 (Qc U)) rfl<|Lo (BI U z_60) U ?_
   refine qa rfl<|Ak (Ar U sz_60 U U (Aq ‹_› U U U)) U rfl<|Ld<|AK (by kernel_rfl)<|Nq (of f_60_0 U) rfl<|Bz U U (An B3 Bf ‹_› U) U (.inl U) U rfl<|Nq (of DI U) rfl<|Nq (of BU U) U ?_
   refine Bz U U (An B4 B2 ‹_› U) U (.inl U) U rfl<|Nq (ol DY U) rfl<|Nq (EL U u_3 U U (by omega)) U ?_
   refine Et (B6 U U (by kernel_rfl) U (hit_37)) (.inl U) U rfl<|Nq (on U) rfl<|Nq (om U) U ?_
   refine En U U U U (fun g3=>?_) (fun g3=>?_)
   have h3:=Fo g3
   iterate 3 refine Nk U ‹_› ?_
   iterate 10 refine Nt U ?_
   refine Nk U ‹_›<|Nq (oT U ‹_› U) rfl<|Nq (om U) U ?_
   iterate 5 refine Nk U U ?_
   refine Nq (oT U U U) rfl<|AG<|Ai U rfl<|Es<|qa rfl<|Ld ?_
   refine Aa ⟨.inl U,rfl,‹_›,‹_›,_,_,_,(Aj U U),rfl,rfl,?_⟩
   refine Ah ?_
   rotate_left
   have h3:=Fp g3
   refine Ng U ‹_› (om U)<|Ng U ‹_› (o2 u_3 U U)<|Ng U ‹_› (om U) ?_
   refine En U U U U (fun g4=>?_) (fun g4=>?_)
   have h4:=dT g4
   refine Ng U ‹_› (of f_60_0 U)<|Bz U U (An B3 Bf ‹_› U) U (Bm U U U U ‹_›) U rfl<|Ng U ‹_› (of f_114_1 U)<|Bz U U (An ag_56 E7 ‹_› U) U (Bm U U U U ‹_›) U rfl<|Ng U ‹_› (om U)<|Ng U ‹_› (DV (b:=1) U u_3 U U (by omega))<|Ng U ‹_› (Ag U u_56 sz_60 U U ‹_›)<|Ng U ‹_› (A6 U f_60_0 U (Qc U)) ?_
   refine Ng U ‹_› (As U U B3 Bf)<|Ng U ‹_› (o2 u_3 U U)<|Ng U ‹_› (oT U ‹_› U)<|Nq (oF U ‹_› U) rfl<|Nq (om U) U ?_
   refine En U U U U (fun g5=>?_) (fun g5=>?_)
   have h5:=dT g5
   iterate 5 refine Nk U ‹_› ?_
   refine Nq (oT U ‹_› U) rfl<|AG<|Ai U rfl<|Es<|qa rfl<|Ld ?_
   refine Aa ⟨.inl U,rfl,‹_›,‹_›,_,_,_,(Aj U U),rfl,rfl,?_⟩
   refine Ah ?_
   rotate_left
   have h5:=dF g5
   refine Bz U U (An ag_146 sz_146 ‹_› U) U (Bm U U U U ‹_›) U rfl<|Ng U ‹_› (of f_60_1 U)<|Bz U U (An B3 Bf ‹_› U) U (Bm U U U U ‹_›) U U ?_
   rotate_left
   have h4:=dF g4
   iterate 10 refine Nk U ‹_› ?_
   refine Ng U ‹_› (oF U ‹_› U)<|Nq (oF U ‹_› U) rfl<|Nq (om U) rfl<|Bz U U (An ag_146 sz_146 ‹_› U) U (Bm U U U U U) U rfl<|Ng U U (of f_60_1 U)<|Bz U U (An B3 Bf ‹_› U) U (Bm U U U U U) U U ?_
   rotate_left
   have h2:=dF g2
   exact absurd h2 (by omega)
  ·exact hno2 (by rw[hat,h3];rfl)
  ·exact hno2 (by rw[hat,h3,g4,g5];rfl)
  ·refine RegN.look (by kernel_rfl) (fun _ _=>rfl) (FE U U U (by kernel_rfl) U (target_to (s:=St.sub _ _) hk hk3 hg0' hg1' l[i].2)) U (Bm U U U U g5) U U ?_
   focus
    refine Ng U ‹_› (on U)<|Nq (oF U ‹_› U) rfl<|AG ?_
    refine Ec U (fun g6=>?_) (fun g6=>?_)
    have h6:=Fo g6
    refine Es<|qa rfl<|Ld ?_
    refine Aa ⟨.inl U,rfl,‹_›,‹_›,_,_,_,(Aj U U),rfl,rfl,?_⟩
    refine Ah ?_
    rotate_left
    have h6:=Fp g6
    refine Ae<|Ao ?_
    refine Lq (A0 (b:=1) U u_3 U U (by first|assumption|omega|(simp only[LL];omega))) U ?_
    refine qm rfl<|Ld ?_
    rotate_left
   ·exact hno2 (by rw[hat,h6,Bool.and_false])
   ·exact⟨(i+1,_),⟨h,E8 hall (by rw[hat,h3,g4,g5,h6];rfl),⟨hg0',hg1',hg2',hg3'⟩,Nat.le_succ_of_le hn,hbd,hlog⟩,by show l.length-(i+1)<l.length-i;omega,rfl,rfl,by(refine Am.Av ?_;repeat (first|exact trivial|refine⟨rfl,?_⟩))⟩
  ·refine RegN.look (by kernel_rfl) (fun _ _=>rfl) (FE U U U (by kernel_rfl) U (target_to (s:=St.sub _ _) hk hk3 hg0' hg1' l[i].2)) U (Bm U U U U U) U U ?_
   focus
    refine Ng U U (on U)<|Nq (oF U U U) rfl<|AG ?_
    refine Ec U (fun g5=>?_) (fun g5=>?_)
    have h5:=Fo g5
    refine Es<|qa rfl<|Ld ?_
    refine Aa ⟨.inl U,rfl,‹_›,‹_›,_,_,_,(Aj U U),rfl,rfl,?_⟩
    refine Ah ?_
    rotate_left
    have h5:=Fp g5
    refine Ae<|Ao ?_
    refine Lq (A0 (b:=1) U u_3 U U (by first|assumption|omega|(simp only[LL];omega))) U ?_
    refine qm rfl<|Ld ?_
    rotate_left
   ·exact hno2 (by rw[hat,h5,Bool.and_false])
   ·exact⟨(i+1,_),⟨h,E8 hall (by rw[hat,h3,g4,h5];rfl),⟨hg0',hg1',hg2',hg3'⟩,Nat.le_succ_of_le hn,hbd,hlog⟩,by show l.length-(i+1)<l.length-i;omega,rfl,rfl,by(refine Am.Av ?_;repeat (first|exact trivial|refine⟨rfl,?_⟩))⟩
 ·focus
   refine Es<|Lq (o2 u_3 U U) rfl<|Ld<|Ab ?_
   refine Ec U (fun g2=>?_) (fun g2=>?_)
   have h2:=dT g2
   exact absurd h2 (by omega)
   have h2:=dF g2
   refine A9<|Bq rfl<|Es<|qa rfl<|Ld ?_
   refine Aa ⟨.inl U,rfl,‹_›,‹_›,_,_,_,(Aj U U),rfl,rfl,?_⟩
   refine Ah ?_
   rotate_left
  obtain rfl:i=l.length:=by omega
  rw[hes,insS,←regsV_one,h1]
  exact hall.symm
theorem instr_goes (c:CodeT) (k:Nat) (hf:Fits c) (hk:k<c.ins.length) (l:List Int) (hs:shapeV c.ins[k]= .goes l):CallTo (EK K13) 38 [.agg (encC c),.int .i64 (k:Nat)] S0 (.bool (insV c k c.ins[k])):=by
 refine Ax (fn:=Tryz.f38) U U (by kernel_rfl) U U U U ?_
 have hp0:=AC Ds hk
 have ha:=hf.args _ (Ql hk)
 have hk1:=hf.cons
 have hk2:=hf.funs
 have hk3:=hf.ins
 have hto:=hf.to _ (Ql hk)
 have hal:=hf.alts _ (Ql hk)
 generalize hx:c.ins[k]=x at*
 refine Es<|Lo (AD 1 U U U U) rfl<|Lo (AD 2 U U U U) rfl<|qa rfl<|Ld<|Es<|Lq (of Bp U) rfl<|Lo (l1 Du Dc U) U ?_
 refine Lo (l1 B3 Bf U) rfl<|Lq (Ag U u_25 AP U U ‹_›) rfl<|Lq (Bb U U Dy AP (Qc U)) U ?_
 refine Lo (Ad U U (by kernel_rfl) U (Ac (hit_51))) rfl<|qa rfl<|Ld<|Ab ?_
 rw[hs]
 obtain rfl:=shape_goes hs
 have hes:=Ee c k x
 rw[hs]at hes
 generalize x.to=l at*
 focus
  refine Es<|qm rfl<|Lq (E2 (neg:=false) U if_111 U U U) rfl<|qm rfl<|Lh U U (om U)<|RegL.un U U U U rfl<|FD (fn:=Tryz.f342) (by kernel_rfl) m_117_registers (by kernel_rfl) U U U U U U U U U U U U rfl<|Es ?_
  refine Lo (AD 3 U U U U) rfl<|qa rfl<|Ld<|Es<|qa rfl<|Ld ?_
  refine Aa (BP (BJ U (Aj U U) U U U U ?_))
  refine Lg U U (Ad U U (by kernel_rfl) U (runb_70))<|Lq (oF U U U) rfl<|Ld<|Ap U rfl<|Ae<|Es<|Lq (Bk U U U) rfl<|Lo (AE 3 U z_146 U) U ?_
  refine Ak (A4 U sz_146 U U U U U U) U rfl<|Ld<|Ab<|Es<|qm rfl<|Ld<|Af<|Es ?_
  refine Lq (Bj U if_114 z_114 U U) U ?_
  iterate 2 refine Lq (oe U) U ?_
  refine Ld<|Ap U rfl<|Es<|Lq (Bj U if_117 z_117 U U) U ?_
  iterate 2 refine Lq (oe U) U ?_
  refine Ld<|Ai U rfl<|Es<|Lo (AE 4 U z_117 U) rfl<|Ak (A4 U sz_117 U U U U U U) U rfl<|Ld<|Es<|Lq (of f_117_0 U) U ?_
  refine Lo (l1 Dn BC U) rfl<|Lq (ol D6 U) rfl<|Lq (o2 u_3 U U) rfl<|qm U ?_
  refine Lb U (fun g1=>?_) (fun g1=>?_)
  have h1:=dT g1
  refine Lh U ‹_› (of f_117_0 U)<|Lg U ‹_› (l1 Dn BC U)<|Lh U ‹_› (Bk U U U) ?_
  rotate_left
  have h1:=dF g1
  iterate 5 refine Lk U ‹_› ?_
  refine Lq (oF U ‹_› U) rfl<|qa rfl<|Ld ?_
  refine Aa (Er U ?_)
  refine Ah ?_
  rotate_left
 ·refine RegL.un U U U U g1 ?_
  refine Lo (Ad U U (by kernel_rfl) U (contains_to U U (p:=fun r=> !tgt c k r) (by kernel_rfl) (fun s' h1 h2 r=>untarget_to hk hk3 (by rw[h1];exact Dx 0) (by rw[h1];exact Dx 1) (by rw[h1];exact Dx 2) r) l hto)) U ?_
  refine Lh U ‹_› (on U)<|Lq (oT U ‹_› U) rfl<|qa rfl<|Ld ?_
  refine Aa (Er U ?_)
  refine Ah ?_
  rw[hes,insS,targetsV,g1,Bool.and_true,←List.not_all_eq_any_not,Bool.not_not]
  exact all_range l 0 (tgt c k)
 ·rw[hes,insS,targetsV,g1,Bool.and_false]
theorem instr_fails (c:CodeT) (k:Nat) (hf:Fits c) (hk:k<c.ins.length) (hs:shapeV c.ins[k]= .fails):CallTo (EK K13) 38 [.agg (encC c),.int .i64 (k:Nat)] S0 (.bool (insV c k c.ins[k])):=by
 refine Ax (fn:=Tryz.f38) U U (by kernel_rfl) U U U U ?_
 have hp0:=AC Ds hk
 have ha:=hf.args _ (Ql hk)
 have hk1:=hf.cons
 have hk2:=hf.funs
 have hk3:=hf.ins
 have hto:=hf.to _ (Ql hk)
 have hal:=hf.alts _ (Ql hk)
 generalize hx:c.ins[k]=x at*
 refine Es<|Lo (AD 1 U U U U) rfl<|Lo (AD 2 U U U U) rfl<|qa rfl<|Ld<|Es<|Lq (of Bp U) rfl<|Lo (l1 Du Dc U) U ?_
 refine Lo (l1 B3 Bf U) rfl<|Lq (Ag U u_25 AP U U ‹_›) rfl<|Lq (Bb U U Dy AP (Qc U)) U ?_
 refine Lo (Ad U U (by kernel_rfl) U (Ac (hit_51))) rfl<|qa rfl<|Ld<|Ab ?_
 rw[hs]
 have hes:=Ee c k x
 rw[hs]at hes
 refine Es<|qm rfl<|Lq (E2 (neg:=false) U if_111 U U U) rfl<|qm rfl<|Lh U U (om U)<|RegL.un U U U U rfl<|FD (fn:=Tryz.f345) (by kernel_rfl) m_166_registers (by kernel_rfl) U U U U U U U U U U U U rfl<|Es ?_
 refine Lo (AD 3 U U U U) rfl<|qa rfl<|Ld<|Es<|qa rfl<|Ld ?_
 refine Aa (BP (BJ U (Aj U U) U U U U ?_))
 refine Lg U U (Ad U U (by kernel_rfl) U (runb_70))<|Lq (oF U U U) rfl<|Ld<|Ap U rfl<|Ae<|Es<|Lq (Bk U U U) rfl<|Lo (AE 3 U z_146 U) U ?_
 refine Ak (A4 U sz_146 U U U U U U) U rfl<|Ld<|Ab<|Es<|qm rfl<|Ld<|Af<|Es ?_
 refine Lq (Bj U if_114 z_114 U U) U ?_
 iterate 2 refine Lq (oe U) U ?_
 refine Ld<|Ap U rfl<|Es<|Lq (Bj U if_117 z_117 U U) U ?_
 iterate 2 refine Lq (oe U) U ?_
 refine Ld<|Ap U rfl<|Es<|Lq (Bj U if_119 z_119 U U) U ?_
 iterate 2 refine Lq (oe U) U ?_
 refine Ld<|Ap U rfl<|Ae<|Es<|qa rfl<|Ld ?_
 refine Aa (Er U ?_)
 refine Ah ?_
 exact hes.symm
theorem instr_frees (c:CodeT) (k:Nat) (hf:Fits c) (hk:k<c.ins.length) (hs:shapeV c.ins[k]= .frees):CallTo (EK K13) 38 [.agg (encC c),.int .i64 (k:Nat)] S0 (.bool (insV c k c.ins[k])):=by
 refine Ax (fn:=Tryz.f38) U U (by kernel_rfl) U U U U ?_
 have hp0:=AC Ds hk
 have ha:=hf.args _ (Ql hk)
 have hk1:=hf.cons
 have hk2:=hf.funs
 have hk3:=hf.ins
 have hto:=hf.to _ (Ql hk)
 have hal:=hf.alts _ (Ql hk)
 generalize hx:c.ins[k]=x at*
 refine Es<|Lo (AD 1 U U U U) rfl<|Lo (AD 2 U U U U) rfl<|qa rfl<|Ld<|Es<|Lq (of Bp U) rfl<|Lo (l1 Du Dc U) U ?_
 refine Lo (l1 B3 Bf U) rfl<|Lq (Ag U u_25 AP U U ‹_›) rfl<|Lq (Bb U U Dy AP (Qc U)) U ?_
 refine Lo (Ad U U (by kernel_rfl) U (Ac (hit_51))) rfl<|qa rfl<|Ld<|Ab ?_
 rw[hs]
 have hes:=Ee c k x
 rw[hs]at hes
 refine Es<|qm rfl<|Lq (E2 (neg:=false) U if_111 U U U) rfl<|qm rfl<|Lh U U (om U)<|RegL.un U U U U rfl<|FD (fn:=Tryz.f346) (by kernel_rfl) m_167_registers (by kernel_rfl) U U U U U U U U U U U U rfl<|Es ?_
 refine Lo (AD 3 U U U U) rfl<|qa rfl<|Ld<|Es<|qa rfl<|Ld ?_
 refine Aa (BP (BJ U (Aj U U) U U U U ?_))
 refine Lg U U (Ad U U (by kernel_rfl) U (runb_70))<|Lq (oF U U U) rfl<|Ld<|Ap U rfl<|Ae<|Es<|Lq (Bk U U U) rfl<|Lo (AE 3 U z_146 U) U ?_
 refine Ak (A4 U sz_146 U U U U U U) U rfl<|Ld<|Ab<|Es<|qm rfl<|Ld<|Af<|Es ?_
 refine Lq (Bj U if_114 z_114 U U) U ?_
 iterate 2 refine Lq (oe U) U ?_
 refine Ld<|Ap U rfl<|Es<|Lq (Bj U if_117 z_117 U U) U ?_
 iterate 2 refine Lq (oe U) U ?_
 refine Ld<|Ap U rfl<|Es<|Lq (Bj U if_119 z_119 U U) U ?_
 iterate 2 refine Lq (oe U) U ?_
 refine Ld<|Ap U rfl<|Ae<|Es<|qa rfl<|Ld ?_
 refine Aa (Er U ?_)
 refine Ah ?_
 exact hes.symm
theorem instr_makes (c:CodeT) (k:Nat) (hf:Fits c) (hk:k<c.ins.length) (o n:Int) (l:List Int) (hs:shapeV c.ins[k]= .makes o n l):CallTo (EK K13) 38 [.agg (encC c),.int .i64 (k:Nat)] S0 (.bool (insV c k c.ins[k])):=by
 refine Ax (fn:=Tryz.f38) U U (by kernel_rfl) U U U U ?_
 have hp0:=AC Ds hk
 have ha:=hf.args _ (Ql hk)
 have hk1:=hf.cons
 have hk2:=hf.funs
 have hk3:=hf.ins
 have hto:=hf.to _ (Ql hk)
 have hal:=hf.alts _ (Ql hk)
 generalize hx:c.ins[k]=x at*
 refine Es<|Lo (AD 1 U U U U) rfl<|Lo (AD 2 U U U U) rfl<|qa rfl<|Ld<|Es<|Lq (of Bp U) rfl<|Lo (l1 Du Dc U) U ?_
 refine Lo (l1 B3 Bf U) rfl<|Lq (Ag U u_25 AP U U ‹_›) rfl<|Lq (Bb U U Dy AP (Qc U)) U ?_
 refine Lo (Ad U U (by kernel_rfl) U (Ac (hit_51))) rfl<|qa rfl<|Ld<|Ab ?_
 rw[hs]
 obtain rfl:=shape_makes hs
 have hes:=Ee c k x
 rw[hs]at hes
 generalize x.args=l at*
 focus
  refine Es<|qm rfl<|Lq (E2 (neg:=false) U if_111 U U U) rfl<|qm rfl<|Lh U U (om U)<|RegL.un U U U U rfl<|FD (fn:=Tryz.f343) (by kernel_rfl) m_119_registers (by kernel_rfl) U U U U U U U U U U U U rfl<|Es ?_
  refine Lo (AD 3 U U U U) rfl<|qa rfl<|Ld<|Es<|Lq (of f_119_2 U) rfl<|Lo (l1 Dn BC U) rfl<|qa rfl<|Ld ?_
  refine Aa (BP (BJ U (Aj U U) U U U U ?_))
  refine Lg U U (Ad U U (by kernel_rfl) U (run_70 (by first|assumption|omega|(simp only[LL];omega)))) ?_
  refine Lq (oF U U U) rfl<|Ld ?_
  refine Ec U (fun g1=>?_) (fun g1=>?_)
  have h1:=Fo g1
  refine Es<|qa rfl<|Ld ?_
  refine Aa (Er U ?_)
  refine Ah ?_
  rotate_left
  have h1:=Fp g1
  refine Ae<|Es<|Lq (Bk U U U) rfl<|Lo (AE 3 U z_146 U) rfl<|Ak (A4 U sz_146 U U U U U U) U rfl<|Ld<|Ab<|Es ?_
  refine qm rfl<|Ld<|Af<|Es<|Lq (Bj U if_114 z_114 U U) U ?_
  iterate 2 refine Lq (oe U) U ?_
  refine Ld<|Ap U rfl<|Es<|Lq (Bj U if_117 z_117 U U) U ?_
  iterate 2 refine Lq (oe U) U ?_
  refine Ld<|Ap U rfl<|Es<|Lq (Bj U if_119 z_119 U U) U ?_
  iterate 2 refine Lq (oe U) U ?_
  refine Ld<|Ai U rfl<|Es<|Lo (AE 4 U z_119 U) rfl<|Ak (A4 U sz_119 U U U U U U) U rfl<|Ld<|Es<|Lq (of DI U) U ?_
  refine Lo (AM U ag_24 sz_24 U U (Qc U)) rfl<|Lo (AM U ag_119 sz_119 U U (Qc U)) U ?_
  refine Lo (Ad U U (by kernel_rfl) U (Ac (hit_81 (by first|assumption|omega|(simp only[LL];omega)) (by first|assumption|omega|(simp only[LL];omega))))) U ?_
  refine qa rfl<|Ld ?_
  refine Aa (Er U ?_)
  refine Ah ?_
  rotate_left
 ·rw[hes,insS,h1];rfl
 ·rw[hes,insS,h1];rfl
theorem instr_enters (c:CodeT) (k:Nat) (hf:Fits c) (hk:k<c.ins.length) (r:Int) (hs:shapeV c.ins[k]= .enters r):CallTo (EK K13) 38 [.agg (encC c),.int .i64 (k:Nat)] S0 (.bool (insV c k c.ins[k])):=by
 refine Ax (fn:=Tryz.f38) U U (by kernel_rfl) U U U U ?_
 have hp0:=AC Ds hk
 have ha:=hf.args _ (Ql hk)
 have hk1:=hf.cons
 have hk2:=hf.funs
 have hk3:=hf.ins
 have hto:=hf.to _ (Ql hk)
 have hal:=hf.alts _ (Ql hk)
 generalize hx:c.ins[k]=x at*
 refine Es<|Lo (AD 1 U U U U) rfl<|Lo (AD 2 U U U U) rfl<|qa rfl<|Ld<|Es<|Lq (of Bp U) rfl<|Lo (l1 Du Dc U) U ?_
 refine Lo (l1 B3 Bf U) rfl<|Lq (Ag U u_25 AP U U ‹_›) rfl<|Lq (Bb U U Dy AP (Qc U)) U ?_
 refine Lo (Ad U U (by kernel_rfl) U (Ac (hit_51))) rfl<|qa rfl<|Ld<|Ab ?_
 rw[hs]
 have hes:=Ee c k x
 rw[hs]at hes
 focus
  refine Es<|qm rfl<|Lq (E2 (neg:=false) U if_111 U U U) rfl<|qm rfl<|Lh U U (om U) ?_
  refine Lg U U (OpL.invoke U U U U m_121_registers (by kernel_rfl) U (Ac (hit_344))) ?_
  refine Lg U U (Ad U U (by kernel_rfl) U (run_70 (by first|assumption|omega|(simp only[LL];omega)))) ?_
  refine Lq (oF U U U) rfl<|Ld ?_
  refine Ec U (fun g1=>?_) (fun g1=>?_)
  have h1:=Fo g1
  refine Es<|qa rfl<|Ld ?_
  refine Aa (Er U ?_)
  refine Ah ?_
  rotate_left
  have h1:=Fp g1
  refine Ae<|Es<|Lq (Bk U U U) rfl<|Lo (AE 3 U z_146 U) rfl<|Ak (A4 U sz_146 U U U U U U) U rfl<|Ld<|Ab<|Es ?_
  refine qm rfl<|Ld<|Af<|Es<|Lq (Bj U if_114 z_114 U U) U ?_
  iterate 2 refine Lq (oe U) U ?_
  refine Ld<|Ap U rfl<|Es<|Lq (Bj U if_117 z_117 U U) U ?_
  iterate 2 refine Lq (oe U) U ?_
  refine Ld<|Ap U rfl<|Es<|Lq (Bj U if_119 z_119 U U) U ?_
  iterate 2 refine Lq (oe U) U ?_
  refine Ld<|Ap U rfl<|Ae<|Es<|qa rfl<|Ld ?_
  refine Aa (Er U ?_)
  refine Ah ?_
  rotate_left
 ·rw[hes,insS,←regsV_one,h1]
 ·rw[hes,insS,←regsV_one,h1]
theorem instr_no (c:CodeT) (k:Nat) (hf:Fits c) (hk:k<c.ins.length) (hs:shapeV c.ins[k]= .no):CallTo (EK K13) 38 [.agg (encC c),.int .i64 (k:Nat)] S0 (.bool (insV c k c.ins[k])):=by
 refine Ax (fn:=Tryz.f38) U U (by kernel_rfl) U U U U ?_
 have hp0:=AC Ds hk
 have ha:=hf.args _ (Ql hk)
 have hk1:=hf.cons
 have hk2:=hf.funs
 have hk3:=hf.ins
 have hto:=hf.to _ (Ql hk)
 have hal:=hf.alts _ (Ql hk)
 generalize hx:c.ins[k]=x at*
 refine Es<|Lo (AD 1 U U U U) rfl<|Lo (AD 2 U U U U) rfl<|qa rfl<|Ld<|Es<|Lq (of Bp U) rfl<|Lo (l1 Du Dc U) U ?_
 refine Lo (l1 B3 Bf U) rfl<|Lq (Ag U u_25 AP U U ‹_›) rfl<|Lq (Bb U U Dy AP (Qc U)) U ?_
 refine Lo (Ad U U (by kernel_rfl) U (Ac (hit_51))) rfl<|qa rfl<|Ld<|Ab ?_
 rw[hs]
 have hes:=Ee c k x
 rw[hs]at hes
 refine Es<|qm rfl<|Lq (E2 (neg:=false) U if_111 U U U) rfl<|qm U ?_
 iterate 3 refine Lk U U ?_
 refine Lq (oT U U U) rfl<|Ld<|Ai U rfl<|Es<|qa rfl<|Ld ?_
 refine Aa (Er U ?_)
 refine Ah ?_
 exact hes.symm
theorem Fc (c:CodeT) (k:Nat) (hf:Fits c) (hk:k<c.ins.length):CallTo (EK K13) 38 [.agg (encC c),.int .i64 (k:Nat)] S0 (.bool (insV c k c.ins[k])):=by
 rcases hs:shapeV c.ins[k]with⟨r,l⟩|l|_|_|⟨o,n,l⟩|r|_
 ·exact instr_looks c k hf hk r l hs
 ·exact instr_goes c k hf hk l hs
 ·exact instr_fails c k hf hk hs
 ·exact instr_frees c k hf hk hs
 ·exact instr_makes c k hf hk o n l hs
 ·exact instr_enters c k hf hk r hs
 ·exact instr_no c k hf hk hs
noncomputable def K14:=addC K13 38 (fun p:AtT=>[.agg (encC p.1.1),.int .i64 (p.1.2:Nat)]) (fun p=> .bool (insV p.1.1 p.1.2 p.x))
theorem hit_38 {c:CodeT} {k:Nat} (h:Fits c) (hk:k<c.ins.length):K14 38 [.agg (encC c),.int .i64 (k:Nat)]=some (.bool (insV c k c.ins[k])):=
 A2 (f:=38) (enc:=fun p:AtT=>[.agg (encC p.1.1),.int .i64 (p.1.2:Nat)]) (res:=fun p=> .bool (insV p.1.1 p.1.2 p.x)) (fun p q h=>by rw[encAt_inj h]) ⟨(c,k),h,hk⟩
theorem all14 (h:KnownF Tryz.prog 10 [] (.bool true)):KnownAll Tryz.prog K14:=Db AB (all13 h) (fun p:AtT=>Fc p.1.1 p.1.2 p.2.1 p.2.2) (fun _=>rfl) (fun _=>rfl)
theorem err0 {b:Bool} (h:(if b=true then(0:Int)else 2)=0):b=true:=by cases b with
 |true=>rfl
 |false=>cases h
theorem err2 {b:Bool} (h:¬(if b=true then(0:Int)else 2)=0):b=false:=by cases b with
 |true=>exact absurd rfl h
 |false=>rfl
theorem check_to (c:CodeT) (hf:Fits c):CallTo (EK K14) 13 [.agg (encC c)] S0 (.int .i64 (if codeV c then 0 else 2)):=by
 refine Ax (fn:=Tryz.f13) U U (by kernel_rfl) U U U U ?_
 have hno:headV c=false→codeV c=false:=fun h=>by unfold codeV;rw[h];rfl
 have hcn:=hf.cnames
 have hfn:=hf.fnames
 have hl1:=hf.starts
 have hl2:=hf.ins
 focus
  refine Es<|Lo (AD 1 U U U U) rfl<|qa rfl<|Ld<|Ab<|Es<|Lq (of DI U) rfl<|Lo (AM U ag_24 sz_24 U U (Qc U)) U ?_
  refine Lo (Ad U U (by kernel_rfl) U (Ac (hit_36 (by first|assumption|omega|(simp only[LL];omega)) (by first|assumption|omega|(simp only[LL];omega))))) U ?_
  refine Lq (o2 u_31 U U) rfl<|qm U ?_
  refine Lb U (fun g1=>?_) (fun g1=>?_)
  have h1:=nT g1
  iterate 4 refine Lk U ‹_› ?_
  refine Lq (oT U ‹_› U) rfl<|qm U ?_
  iterate 8 refine Lk U U ?_
  refine Lq (oT U U U) rfl<|Ld<|Ai U rfl<|Es<|qa rfl<|Ld ?_
  refine Aa (Er U ?_)
  rotate_left
  have h1:=nF g1
  refine Lh U ‹_› (of Bp U)<|Lg U ‹_› (l1 Du Dc U)<|Lh U ‹_› (ol u_25 U)<|Lh U ‹_› (o2 u_3 U U)<|Lq (oF U ‹_› U) rfl<|qm U ?_
  refine Lb U (fun g2=>?_) (fun g2=>?_)
  have h2:=dT g2
  iterate 8 refine Lk U ‹_› ?_
  refine Lq (oT U ‹_› U) rfl<|Ld<|Ai U rfl<|Es<|qa rfl<|Ld ?_
  refine Aa (Er U ?_)
  rotate_left
  have h2:=dF g2
  refine Lh U ‹_› (of ES U)<|Lg U ‹_› (l1 Dn BC U)<|Lh U ‹_› (ol D6 U)<|Lh U ‹_› (of DI U)<|Lh U ‹_› (of BT U)<|Lg U ‹_› (l1 B4 B2 U)<|Lh U ‹_› (ol DY U)<|Lh U ‹_› (o2 u_3 U U) ?_
  refine Lq (oF U ‹_› U) rfl<|Ld ?_
  refine Ec U (fun g3=>?_) (fun g3=>?_)
  have h3:=nT g3
  refine Es<|qa rfl<|Ld ?_
  refine Aa (Er U ?_)
  rotate_left
  have h3:=nF g3
  refine Ae<|Ab<|Es<|Lq (of ES U) rfl<|Lo (l1 Dn BC U) rfl<|Lq (ol D6 U) rfl<|qm rfl<|Ld ?_
  refine Af ?_
  rotate_left
 ·rw[hno (by unfold headV;rw[err2 h1];rfl)];rfl
 ·rw[hno (by unfold headV;rw[g2];simp)];rfl
 ·rw[hno (by unfold headV;rw[decide_eq_false h3];simp)];rfl
 have hhd:headV c=true:=by unfold headV;rw[err0 h1,g2,decide_eq_true h3];rfl
 refine A5 (fun i:Nat=>([(29,.int .i64 (i:Nat)),(28,.int .i64 (c.starts.length:Nat)),(27,recs encZ 1 c.starts),(2,.int .i64 0),(1,.ptr 0 0)],mkS 1 0 [] [(0,some (.cells (encC c) 28 false))])) (fun i=>c.starts.length-i) (fun i=>i≤c.starts.length∧(List.range i).all (startAt c)=true) 0 ⟨Qn _,rfl⟩ U (by(refine Am.Av ?_;repeat (first|exact trivial|refine⟨rfl,?_⟩))) ?_
 rintro i ⟨hi,hs⟩
 dsimp only at hi hs⊢
 by_cases h:i<c.starts.length
 ·have hp:=AC Be h
  have hat:startAt c i=inV c.starts[i] 0 (c.ins.length-1):=by unfold startAt;rw[Dh h]
  focus
   refine Es<|Lq (o2 u_3 U U) rfl<|Ld<|Ab ?_
   refine Ec U (fun g4=>?_) (fun g4=>?_)
   have h4:=dT g4
   refine Ae<|Ab<|Af<|Es<|Lq (Ag U D6 Bf U U ‹_›) rfl<|Lq (As U U B3 Bf) rfl<|qa rfl<|Ld ?_
   refine Es<|qm rfl<|Lq (of Bp U) rfl<|Lo (l1 Du Dc U) rfl<|Lq (ol u_25 U) rfl<|Lq (EL U u_3 U U (by omega)) U ?_
   refine Lo (Ad U U (by kernel_rfl) U (Ac (hit_37))) rfl<|Lq (on U) rfl<|Ld ?_
   refine Ec U (fun g5=>?_) (fun g5=>?_)
   have h5:=Fo g5
   refine Es<|qa rfl<|Ld ?_
   refine Aa (Er U ?_)
   rotate_left
   have h5:=Fp g5
   refine Ae<|Ao ?_
   refine Lq (A0 (b:=1) U u_3 U U (by first|assumption|omega|(simp only[LL];omega))) U ?_
   refine qm rfl<|Ld ?_
   rotate_left
   have h4:=dF g4
   exact absurd h4 (by omega)
  ·have:codeV c=false:=by unfold codeV;rw[ra_no h (hat.trans h5),Bool.false_and,Bool.and_false]
   rw[this];rfl
  ·exact⟨i+1,⟨h,E8 hs (hat.trans h5)⟩,by show c.starts.length-(i+1)<c.starts.length-i;omega,rfl,rfl,by(refine Am.Av ?_;repeat (first|exact trivial|refine⟨rfl,?_⟩))⟩
 ·focus
   refine Es<|Lq (o2 u_3 U U) rfl<|Ld<|Ab ?_
   refine Ec U (fun g4=>?_) (fun g4=>?_)
   have h4:=dT g4
   exact absurd h4 (by omega)
   have h4:=dF g4
   refine A9<|Bq rfl<|Ab<|Es<|Lq (of Bp U) rfl<|Lo (l1 Du Dc U) rfl<|Lq (ol u_25 U) rfl<|qm U ?_
   refine Ld<|Af ?_
   rotate_left
  obtain rfl:i=c.starts.length:=by omega
  refine A5 (fun i:Nat=>([(44,.int .i64 (i:Nat)),(43,.int .i64 (c.ins.length:Nat)),(2,.int .i64 0),(1,.ptr 0 0)],mkS 1 0 [] [(0,some (.cells (encC c) 28 false))])) (fun i=>c.ins.length-i) (fun i=>i≤c.ins.length∧(List.range i).all (insAt c)=true) 0 ⟨Qn _,rfl⟩ U (by(refine Am.Av ?_;repeat (first|exact trivial|refine⟨rfl,?_⟩))) ?_
  rintro j ⟨hj,hs2⟩
  dsimp only at hj hs2⊢
  by_cases h':j<c.ins.length
  ·have hat:insAt c j=insV c j c.ins[j]:=by unfold insAt;rw[iAt_eq h']
   focus
    refine Es<|Lq (o2 u_3 U U) rfl<|Ld<|Ab ?_
    refine Ec U (fun g5=>?_) (fun g5=>?_)
    have h5:=dT g5
    refine Ae<|Ab<|Af<|Es<|qm rfl<|qa rfl<|Ld<|Es ?_
    refine Lo (AM U DU Bg U U (Qc U)) rfl<|qm U ?_
    refine Lo (Ad U U (by kernel_rfl) U (Ac (hit_38 (by first|assumption|omega|(simp only[LL];omega)) (by first|assumption|omega|(simp only[LL];omega))))) U ?_
    refine Lq (on U) rfl<|Ld ?_
    refine Ec U (fun g6=>?_) (fun g6=>?_)
    have h6:=Fo g6
    refine Es<|qa rfl<|Ld ?_
    refine Aa (Er U ?_)
    rotate_left
    have h6:=Fp g6
    refine Ae<|Ao ?_
    refine Lq (A0 (b:=1) U u_3 U U (by first|assumption|omega|(simp only[LL];omega))) U ?_
    refine qm rfl<|Ld ?_
    rotate_left
    have h5:=dF g5
    exact absurd h5 (by omega)
   ·have:codeV c=false:=by unfold codeV;rw[ra_no h' (hat.trans h6),Bool.and_false,Bool.and_false]
    rw[this];rfl
   ·exact⟨j+1,⟨h',E8 hs2 (hat.trans h6)⟩,by show c.ins.length-(j+1)<c.ins.length-j;omega,rfl,rfl,by(refine Am.Av ?_;repeat (first|exact trivial|refine⟨rfl,?_⟩))⟩
  ·focus
    refine Es<|Lq (o2 u_3 U U) rfl<|Ld<|Ab ?_
    refine Ec U (fun g5=>?_) (fun g5=>?_)
    have h5:=dT g5
    exact absurd h5 (by omega)
    have h5:=dF g5
    refine A9<|Bq rfl<|Es<|qa rfl<|Ld ?_
    refine Aa (Er U ?_)
    rotate_left
   obtain rfl:j=c.ins.length:=by omega
   have:codeV c=true:=by unfold codeV;rw[hs,hs2,hhd];rfl
   rw[this];rfl
noncomputable def K15:=addC K14 13 (fun p:FitT=>[.agg (encC p.1)]) (fun p=> .int .i64 (if codeV p.1 then 0 else 2))
theorem hit_13 {c:CodeT} (h:Fits c):K15 13 [.agg (encC c)]=some (.int .i64 (if codeV c then 0 else 2)):=
 A2 (f:=13) (enc:=fun p:FitT=>[.agg (encC p.1)]) (res:=fun p=> .int .i64 (if codeV p.1 then 0 else 2)) (fun p q h=>by rw[encF_inj h]) ⟨c,h⟩
theorem all15 (h:KnownF Tryz.prog 10 [] (.bool true)):KnownAll Tryz.prog K15:=Db AB (all14 h) (fun p:FitT=>check_to p.1 p.2) (fun _=>rfl) (fun _=>rfl)
end Go.Proofs.YtpihdbhocgcbpaaGreatDoor
