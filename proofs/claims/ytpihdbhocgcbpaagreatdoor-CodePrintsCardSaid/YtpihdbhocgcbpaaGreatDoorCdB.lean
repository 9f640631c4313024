/- Code: what is as defined; data of arguments. -/
import Derived.Test.YtpihdbhocgcbpaaGreatDoorCdA
import Derived.Test.YtpihdbhocgcbpaaGreatDoorAmG
set_option linter.unusedSectionVars false
set_option linter.unusedVariables false
set_option linter.unusedSimpArgs false
open Go Am
namespace Go.Proofs.YtpihdbhocgcbpaaGreatDoor
noncomputable def K9:=Wa K8 60 (fun p:pI=>[.agg (CG p.1.1),.int .i64 (p.1.2:Nat)]) (fun p=> .bool (Yh p.1.1 p.1.2 p.x))
theorem hit_60 {c:Cm} {k:Nat} (h:Fits c) (hk:k<c.ins.length):K9 60 [.agg (CG c),.int .i64 (k:Nat)]=some (.bool (Yh c k c.ins[k])):=
 A3 (f:=60) (enc:=fun p:pI=>[.agg (CG p.1.1),.int .i64 (p.1.2:Nat)]) (res:=fun p=> .bool (Yh p.1.1 p.1.2 p.x)) (fun p q h=>by rw[Ir h]) ⟨(c,k),h,hk⟩
theorem all9 (h:VG Tryz.prog 10 [] (.bool true)):CK Tryz.prog K9:=Do AC (all8 h) (fun p:pI=>ins_to p.1.1 p.1.2 p.2.1 p.2.2) (fun _=>rfl) (fun _=>rfl)
def bI (c:Cm) (i:Nat):Bool:=YK (c.Cj.getD i 0) 0 (c.ins.length-1)
def iY (c:Cm) (i:Nat):Bool:=Yh c i (iAt c i)
def Zz (c:Cm):Bool:=Zc c.cons c.Co&& !(decide (1000<(c.ins.length:Int))|| !decide ((c.Cj.length:Int)=c.Co.length))
def CV (c:Cm):Bool:=Zz c&&((List.range c.Cj.length).all (bI c)&&(List.range c.ins.length).all (iY c))
theorem xB (c:Cm) (hf:Fits c):Cb (EK K9) 24 [.agg (CG c)] S0 (.bool (CV c)):=by
 refine Aq (fn:=Tryz.f24) U U (by kernel_rfl) U U U U ?_;have XG:Zz c=false→CV c=false:=fun h=>by unfold CV;rw[h];rfl
 have iL:=hf.iW;have kZ:=hf.iX;have aB:=hf.Cj;have aZ:=hf.ins;focus
  refine Es<|Lo (A4 1 U U U U) rfl<|qa rfl<|Ld<|Aa<|Es<|Lq (of BI U) rfl<|Lo (AA U MU Ma U U (Qc U)) U ?_;refine Lo (Ad U U (by kernel_rfl) U (Cb.Cs (hit_59 (by omega) (by omega)))) U ?_;refine Lq (on U) rfl<|qm U ?_;refine Lb U (fun g1=>?_) (fun g1=>?_);have h1:=FB g1;iterate 4 refine Lk U ‹_› ?_
  refine Lq (oT U ‹_› U) rfl<|qm U ?_;iterate 8 refine Lk U U ?_
  refine Lq (oT U U U) rfl<|Ld<|Ah U rfl<|Es<|qa rfl<|Ld ?_;refine Ab (Er U ?_);refine Ag ?_;rotate_left;have h1:=FC g1;refine Lh U ‹_› (of Bf U)<|Lg U ‹_› (l1 Dg Dd U)<|Lh U ‹_› (ol FR U)<|Lh U ‹_› (o2 Ck U U)<|Lq (oF U ‹_› U) rfl<|qm U ?_;refine Lb U (fun g2=>?_) (fun g2=>?_);have h2:=dT g2;iterate 8 refine Lk U ‹_› ?_
  refine Lq (oT U ‹_› U) rfl<|Ld<|Ah U rfl<|Es<|qa rfl<|Ld ?_;refine Ab (Er U ?_);refine Ag ?_;rotate_left;have h2:=dF g2;refine Lh U ‹_› (of EA U)<|Lg U ‹_› (l1 BJ B9 U)<|Lh U ‹_› (ol Ea U)<|Lh U ‹_› (of BI U)<|Lh U ‹_› (of BF U)<|Lg U ‹_› (l1 Bn Bk U)<|Lh U ‹_› (ol D3 U)<|Lh U ‹_› (o2 Ck U U)<|Lq (oF U ‹_› U) rfl<|Ld ?_;refine Ec U (fun g3=>?_) (fun g3=>?_);have h3:=nT g3;refine Es<|qa rfl<|Ld ?_;refine Ab (Er U ?_);refine Ag ?_;rotate_left;have h3:=nF g3;refine Ac<|Aa<|Es<|qa rfl<|Ld<|Ch.block ?_;rotate_left
 ·rw[XG (by unfold Zz;rw[h1];rfl)]
 ·rw[XG (by unfold Zz;rw[g2];simp)]
 ·rw[XG (by unfold Zz;rw[decide_eq_false h3];simp)]
 have hhd:Zz c=true:=by unfold Zz;rw[h1,g2,decide_eq_true h3];rfl
 refine Aw (fun i:Nat=>([(3,.int .i64 (i:Nat)),(1,.ptr 0 0)],WZ 1 0 [] [(0,some (.cells (CG c) 28 false))])) (fun i=>c.Cj.length-i) (fun i=>i≤c.Cj.length∧(List.range i).all (bI c)=true) 0 ⟨Qo _,rfl⟩ U (Ao (by repeat' constructor)) ?_;rintro i ⟨hi,hs⟩;dsimp only at hi hs⊢;by_cases h:i<c.Cj.length
 ·have hp:=A7 Bi h;have ZZ:bI c i=YK c.Cj[i] 0 (c.ins.length-1):=by unfold bI;rw[Dj h]
  focus
   refine Aa<|Es<|qm rfl<|Lq (of EA U) rfl<|Lo (l1 BJ B9 U) rfl<|Lq (ol Ea U) rfl<|Lq (o2 Ck U U) rfl<|Ld ?_;refine Ec U (fun g4=>?_) (fun g4=>?_);have h4:=dT g4;refine Ac<|Aa<|Ch.block<|As (by kernel_rfl)<|Nq (of EA U) rfl<|A6 U BJ B9 U U U (by kernel_rfl) (.inl U) U rfl<|Nq (om U) rfl<|Nq (Ae U Ea Bb U U ‹_›) rfl<|Nq (Av U U Bv Bb) rfl<|Nq (of Bf U) rfl<|A6 U Dg Dd U U U (by kernel_rfl) (.inl U) U rfl<|Nq (ol FR U) rfl<|Nq (Wj.sub U Ck U U (by omega)) U ?_;refine Bp (AI U U (by kernel_rfl) U (Gq)) (.inl U) U rfl<|Nq (on U) rfl<|Au ?_;refine Ec U (fun g5=>?_) (fun g5=>?_);have h5:=FB g5;refine Es<|qa rfl<|Ld ?_;refine Ab (Er U ?_);refine Ag ?_;rotate_left;have h5:=FC g5;refine Ac<|Ai<|qm U ?_;refine Lq (Ap (b:=1) U Ck U U (by omega)) U ?_;refine qa rfl<|Ld ?_;rotate_left;have h4:=dF g4;exact absurd h4 (by omega)
  ·unfold CV;rw[Mj h (ZZ.trans h5),Bool.false_and,Bool.and_false]
  ·exact⟨i+1,⟨h,EN hs (ZZ.trans h5)⟩,by show c.Cj.length-(i+1)<c.Cj.length-i;omega,rfl,rfl,Ao (by repeat' constructor)⟩
 ·focus
   refine Aa<|Es<|qm rfl<|Lq (of EA U) rfl<|Lo (l1 BJ B9 U) rfl<|Lq (ol Ea U) rfl<|Lq (o2 Ck U U) rfl<|Ld ?_;refine Ec U (fun g4=>?_) (fun g4=>?_);have h4:=dT g4;exact absurd h4 (by omega);have h4:=dF g4;refine A1<|AS rfl<|Aa<|Es<|qa rfl<|Ld<|Ch.block ?_;rotate_left
  obtain rfl:i=c.Cj.length:=by omega
  refine Aw (fun i:Nat=>([(4,.int .i64 (i:Nat)),(1,.ptr 0 0)],WZ 1 0 [] [(0,some (.cells (CG c) 28 false))])) (fun i=>c.ins.length-i) (fun i=>i≤c.ins.length∧(List.range i).all (iY c)=true) 0 ⟨Qo _,rfl⟩ U (Ao (by repeat' constructor)) ?_;rintro j ⟨hj,jw⟩;dsimp only at hj jw⊢;by_cases h':j<c.ins.length
  ·have ZZ:iY c j=Yh c j c.ins[j]:=by unfold iY;rw[NZ h']
   focus
    refine Aa<|Es<|qm rfl<|Lq (of Bf U) rfl<|Lo (l1 Dg Dd U) rfl<|Lq (ol FR U) rfl<|Lq (o2 Ck U U) rfl<|Ld ?_;refine Ec U (fun g5=>?_) (fun g5=>?_);have h5:=dT g5;refine Ac<|Aa<|Ch.block<|Es<|Lo (AA U Em D5 U U (Qc U)) rfl<|qm U ?_;refine Lo (Ad U U (by kernel_rfl) U (Cb.Cs (hit_60 (by omega) (by omega)))) U ?_;refine Lq (on U) rfl<|Ld ?_;refine Ec U (fun g6=>?_) (fun g6=>?_);have h6:=FB g6;refine Es<|qa rfl<|Ld ?_;refine Ab (Er U ?_);refine Ag ?_;rotate_left;have h6:=FC g6;refine Ac<|Ai<|qm U ?_;refine Lq (Ap (b:=1) U Ck U U (by omega)) U ?_;refine qa rfl<|Ld ?_;rotate_left;have h5:=dF g5;exact absurd h5 (by omega)
   ·unfold CV;rw[Mj h' (ZZ.trans h6),Bool.and_false,Bool.and_false]
   ·exact⟨j+1,⟨h',EN jw (ZZ.trans h6)⟩,by show c.ins.length-(j+1)<c.ins.length-j;omega,rfl,rfl,Ao (by repeat' constructor)⟩
  ·focus
    refine Aa<|Es<|qm rfl<|Lq (of Bf U) rfl<|Lo (l1 Dg Dd U) rfl<|Lq (ol FR U) rfl<|Lq (o2 Ck U U) rfl<|Ld ?_;refine Ec U (fun g5=>?_) (fun g5=>?_);have h5:=dT g5;exact absurd h5 (by omega);have h5:=dF g5;refine A1<|AS rfl<|Es<|qa rfl<|Ld ?_;refine Ab (Er U ?_);refine Ag ?_;rotate_left
   obtain rfl:j=c.ins.length:=by omega
   unfold CV;rw[hs,jw,hhd];rfl
abbrev Z7:= {c:Cm//Fits c}
theorem Rc {p q:Z7} (h:([.agg (CG p.1)]:List AV)=[.agg (CG q.1)]):p=q:=by
 obtain⟨a,_⟩:=p;obtain⟨b,_⟩:=q;obtain rfl:=Hb (List.cons.inj h).1;rfl
noncomputable def K10a:=Wa K9 24 (fun p:Z7=>[.agg (CG p.1)]) (fun p=> .bool (CV p.1))
theorem G9 {c:Cm} (h:Fits c):K10a 24 [.agg (CG c)]=some (.bool (CV c)):=
 A3 (f:=24) (enc:=fun p:Z7=>[.agg (CG p.1)]) (res:=fun p=> .bool (CV p.1)) (fun p q h=>by rw[Rc h]) ⟨c,h⟩
theorem T7 (c:Cm) (hf:Fits c):Cb (EK K10a) 14 [.agg (CG c)] S0 (.int .i64 (if CV c then 0 else 2)):=by
 refine Aq (fn:=Tryz.f14) U U (by kernel_rfl) U U U U ?_;focus
  refine Es<|Lo (A4 1 U U U U) rfl<|qa rfl<|Ld<|Aa<|Es<|Lo (AA U Em D5 U U (Qc U)) U ?_;refine Lo (Ad U U (by kernel_rfl) U (Cb.Cs (G9 (by omega)))) U ?_;refine Lq (on U) rfl<|Ld ?_;refine Ec U (fun g1=>?_) (fun g1=>?_);have h1:=FB g1;refine Es<|qa rfl<|Ld ?_;refine Ab (Er U ?_);rotate_left;have h1:=FC g1;refine Ac<|Es<|qa rfl<|Ld ?_;refine Ab (Er U ?_);rotate_left
 ·rw[h1];rfl
 ·rw[h1];rfl
noncomputable def K10:=Wa K10a 14 (fun p:Z7=>[.agg (CG p.1)]) (fun p=> .int .i64 (if CV p.1 then 0 else 2))
theorem all10 (h:VG Tryz.prog 10 [] (.bool true)):CK Tryz.prog K10:=
 Do AC (Do AC (all9 h) (fun p:Z7=>xB p.1 p.2) (fun _=>rfl) (fun _=>rfl)) (fun p:Z7=>T7 p.1 p.2) (fun _=>rfl) (fun _=>rfl)
def mK (x:VI):Bool:= !decide (x.a=0)
def lQ (x:VI):Bool:=decide (0<(x.alts.length:Int))
def mZ (x:VI):Bool:=decide (0<(x.to.length:Int))
def eF (x:VI):Bool:= !Xs x
def oO (x:VI):Bool:=decide (x.op=1)&&(!mZ x&& !eF x)
def nM (x:VI):Bool:=decide (x.op=2)&&(!mK x&&(!lQ x&& !eF x))
def na (x:VI):Bool:=decide (x.op=3)&&(!mK x&&(!lQ x&&(!mZ x&& !eF x)))
def nN (x:VI):Bool:=decide (x.op=4)&&(!mK x&&(!lQ x&&(!mZ x&& !eF x)))
def pZ (x:VI):Bool:=decide (x.op=5)&&(!mK x&&(!lQ x&& !mZ x))
def qb (x:VI):Bool:=decide (x.op=6)&&(!lQ x&&(!mZ x&& !eF x))
inductive ShT where
 |looks (reg:Int) (alts:List Zl)
 |goes (to:List Int)
 |mL
 |mM
 |makes (op n:Int) (args:List Int)
 |enters (reg:Int)
 |no
def shA:ShT→AV
 | .looks r l=> .iface 114 (.agg [.int .i64 r,Cq XB 2 l])
 | .goes l=> .iface 117 (.agg [Cq CY 1 l])
 | .mL=> .iface 166 (.agg [])
 | .mM=> .iface 167 (.agg [])
 | .makes o n l=> .iface 119 (.agg [.int .i64 o,.int .i64 n,Cq CY 1 l])
 | .enters r=> .iface 121 (.agg [.int .i64 r])
 | .no=> .C8
def VY (x:VI):ShT:=
 if oO x then .looks x.a x.alts else if nM x then .goes x.to else if na x then .mL else if nN x then .mM else if pZ x then .makes x.term x.n x.args else if qb x then .enters x.a else .no
theorem Pr {α:Type} {l:List α}:decide (0<(l.length:Int))= !decide ((l.length:Int)=0):=by
 cases l with
 |nil=>rfl
 |cons a l=>simp;omega
theorem To (x:VI):Cb (EK K10) 51 [.agg (WN x)] S0 (shA (VY x)):=by
 refine Aq (fn:=Tryz.f51) U U (by kernel_rfl) U U U rfl<|Es<|Lo (A4 1 U U U U) rfl<|qa rfl<|Ld ?_;refine Ch.cut [(6,.bool (eF x)),(5,.bool (mZ x)),(4,.bool (lQ x)),(3,.bool (mK x)),(2,.C8),(1,.ptr 0 0)] (WZ 1 0 [] [(0,some (.cells (WN x) 58 false))]) ?_ ?_
 ·focus
   refine Bt (by kernel_rfl)<|Nq (of E1 U) rfl<|A6 U Bv Bb U U U (by kernel_rfl) (.inl U) U rfl<|Nq (o2 Ck U U) rfl<|Nq (of Dm U) rfl<|A6 U E7 Ee U U U (by kernel_rfl) (.inl U) U rfl<|Nq (ol Hm U) rfl<|Nq (o2 Ck U U) rfl<|Nq (of E9 U) rfl<|A6 U BJ B9 U U U (by kernel_rfl) (.inl U) U rfl<|Nq (ol Ea U) rfl<|Nq (o2 Ck U U) rfl<|Nq (of Hs U) rfl<|A6 U KJ Jh U U U (by kernel_rfl) (.inl U) U rfl<|Nq (o2 Hx U U) rfl<|Nq (om U) U ?_;refine E5 U U U U (fun g1=>?_) (fun g1=>?_);have h1:=nT g1;iterate 3 refine Nk U ‹_› ?_
   refine Nq (oT U ‹_› U) rfl<|Nq (om U) U ?_;iterate 4 refine Nk U U ?_
   refine Nq (oT U U U) U ?_;iterate 4 refine Nq (oa U) U ?_
   refine Au ?_;rotate_left;have h1:=nF g1;refine Ng U ‹_› (of De U)<|A6 U Bv Bb U U U (by kernel_rfl) (Bl U U U U ‹_›) U rfl<|Ng U ‹_› (o2 Ck U U)<|Nq (oF U ‹_› U) rfl<|Nq (om U) U ?_;refine E5 U U U U (fun g2=>?_) (fun g2=>?_);have h2:=nT g2;iterate 4 refine Nk U ‹_› ?_
   refine Nq (oT U ‹_› U) U ?_;iterate 4 refine Nq (oa U) U ?_
   refine Au ?_;rotate_left;have h2:=nF g2;refine Ng U ‹_› (of FG U)<|A6 U BJ B9 U U U (by kernel_rfl) (Bl U U U U ‹_›) U rfl<|Ng U ‹_› (ol Ea U)<|Ng U ‹_› (o2 Ck U U)<|Nq (oF U ‹_› U) U ?_;iterate 4 refine Nq (oa U) U ?_
   refine Au ?_;rotate_left
  ·refine⟨rfl,rfl,rfl,?_⟩;have e:eF x=true:=by unfold eF Xs;rw[decide_eq_false h1];rfl
   rw[e]
   (refine Am.Ao ?_;repeat (first|exact trivial|refine⟨rfl,?_⟩))
  ·refine⟨rfl,rfl,rfl,?_⟩;have e:eF x=true:=by unfold eF Xs;rw[decide_eq_true h1,decide_eq_false h2];rfl
   rw[e]
   (refine Am.Ao ?_;repeat (first|exact trivial|refine⟨rfl,?_⟩))
  ·refine⟨rfl,rfl,rfl,?_⟩;have e:eF x=decide (0<(x.args.length:Int)):=by unfold eF Xs;rw[decide_eq_true h1,decide_eq_true h2,Pr];rfl
   rw[e]
   (refine Am.Ao ?_;repeat (first|exact trivial|refine⟨rfl,?_⟩))
 refine Aa<|Ch.block ?_;refine Ch.cut [(32,.bool (oO x)),(6,.bool (eF x)),(5,.bool (mZ x)),(4,.bool (lQ x)),(3,.bool (mK x)),(2,.C8),(1,.ptr 0 0)] (WZ 1 0 [] [(0,some (.cells (WN x) 58 false))]) ?_ ?_
 ·focus
   refine Ai<|Lq (of Df U) rfl<|Lo (l1 E8 E6 U) rfl<|Lq (o2 Gp U U) rfl<|qm U ?_;refine Lb U (fun g1=>?_) (fun g1=>?_);have h1:=dT g1;refine Lh U ‹_› (om U)<|Lh U ‹_› (on U)<|Lq (oT U ‹_› U) rfl<|qm U ?_;refine Lb U (fun g2=>?_) (fun g2=>?_);have h2:=FB g2;refine Lh U ‹_› (om U)<|Lh U ‹_› (on U)<|Lq (oT U ‹_› U) rfl<|qa rfl<|Ld ?_;rotate_left;have h2:=FC g2;iterate 2 refine Lk U ‹_› ?_
   refine Lq (oF U ‹_› U) rfl<|qa rfl<|Ld ?_;rotate_left;have h1:=dF g1;iterate 2 refine Lk U ‹_› ?_
   refine Lq (oF U ‹_› U) rfl<|qm U ?_;iterate 2 refine Lk U U ?_
   refine Lq (oF U U U) rfl<|qa rfl<|Ld ?_;rotate_left
  ·refine⟨rfl,rfl,rfl,?_⟩;have e:oO x=(!eF x):=by unfold oO;rw[g1,g2];rfl
   rw[e]
   (refine Am.Ao ?_;repeat (first|exact trivial|refine⟨rfl,?_⟩))
  ·refine⟨rfl,rfl,rfl,?_⟩;have e:oO x=(false):=by unfold oO;rw[g1,g2];rfl
   rw[e]
   (refine Am.Ao ?_;repeat (first|exact trivial|refine⟨rfl,?_⟩))
  ·refine⟨rfl,rfl,rfl,?_⟩;have e:oO x=(false):=by unfold oO;rw[g1];rfl
   rw[e]
   (refine Am.Ao ?_;repeat (first|exact trivial|refine⟨rfl,?_⟩))
 refine Ec U (fun g1=>?_) (fun g1=>?_)
 ·refine Es ?_;refine Lq (of E1 U) rfl<|Lo (l1 Bv Bb U) rfl<|Lq (of Dm U) rfl<|Lo (l1 E7 Ee U) rfl<|Lq (Bj U TL U U) rfl<|Lq (DF U EY U) rfl<|qa rfl<|Ld ?_;refine Ab (Er U ?_);unfold VY;rw[g1];rfl
 skip
 refine Ch.cut [(50,.bool (nM x)),(6,.bool (eF x)),(5,.bool (mZ x)),(4,.bool (lQ x)),(3,.bool (mK x)),(2,.C8),(1,.ptr 0 0)] (WZ 1 0 [] [(0,some (.cells (WN x) 58 false))]) ?_ ?_
 ·focus
   refine Ai<|Lq (of Df U) rfl<|Lo (l1 E8 E6 U) rfl<|Lq (o2 Gp U U) rfl<|qm U ?_;refine Lb U (fun g2=>?_) (fun g2=>?_);have h2:=dT g2;refine Lh U ‹_› (om U)<|Lh U ‹_› (on U)<|Lq (oT U ‹_› U) rfl<|qm U ?_;refine Lb U (fun g3=>?_) (fun g3=>?_);have h3:=FB g3;refine Lh U ‹_› (om U)<|Lh U ‹_› (on U)<|Lq (oT U ‹_› U) rfl<|qm U ?_;refine Lb U (fun g4=>?_) (fun g4=>?_);have h4:=FB g4;refine Lh U ‹_› (om U)<|Lh U ‹_› (on U)<|Lq (oT U ‹_› U) rfl<|qa rfl<|Ld ?_;rotate_left;have h4:=FC g4;iterate 2 refine Lk U ‹_› ?_
   refine Lq (oF U ‹_› U) rfl<|qa rfl<|Ld ?_;rotate_left;have h3:=FC g3;iterate 2 refine Lk U ‹_› ?_
   refine Lq (oF U ‹_› U) rfl<|qm U ?_;iterate 2 refine Lk U U ?_
   refine Lq (oF U U U) rfl<|qa rfl<|Ld ?_;rotate_left;have h2:=dF g2;iterate 2 refine Lk U ‹_› ?_
   refine Lq (oF U ‹_› U) rfl<|qm U ?_;iterate 2 refine Lk U U ?_
   refine Lq (oF U U U) rfl<|qm U ?_;iterate 2 refine Lk U U ?_
   refine Lq (oF U U U) rfl<|qa rfl<|Ld ?_;rotate_left
  ·refine⟨rfl,rfl,rfl,?_⟩;have e:nM x=(!eF x):=by unfold nM;rw[g2,g3,g4];rfl
   rw[e]
   (refine Am.Ao ?_;repeat (first|exact trivial|refine⟨rfl,?_⟩))
  ·refine⟨rfl,rfl,rfl,?_⟩;have e:nM x=(false):=by unfold nM;rw[g2,g3,g4];rfl
   rw[e]
   (refine Am.Ao ?_;repeat (first|exact trivial|refine⟨rfl,?_⟩))
  ·refine⟨rfl,rfl,rfl,?_⟩;have e:nM x=(false):=by unfold nM;rw[g2,g3];rfl
   rw[e]
   (refine Am.Ao ?_;repeat (first|exact trivial|refine⟨rfl,?_⟩))
  ·refine⟨rfl,rfl,rfl,?_⟩;have e:nM x=(false):=by unfold nM;rw[g2];rfl
   rw[e]
   (refine Am.Ao ?_;repeat (first|exact trivial|refine⟨rfl,?_⟩))
 refine Ec U (fun g2=>?_) (fun g2=>?_)
 ·refine Es ?_;refine Lq (of E9 U) rfl<|Lo (l1 BJ B9 U) rfl<|Lq (Bj U TK U U) rfl<|Lq (DF U FE U) rfl<|qa rfl<|Ld ?_;refine Ab (Er U ?_);unfold VY;rw[g1,g2];rfl
 skip
 refine Ch.cut [(70,.bool (na x)),(6,.bool (eF x)),(5,.bool (mZ x)),(4,.bool (lQ x)),(3,.bool (mK x)),(2,.C8),(1,.ptr 0 0)] (WZ 1 0 [] [(0,some (.cells (WN x) 58 false))]) ?_ ?_
 ·focus
   refine Ai<|Lq (of Df U) rfl<|Lo (l1 E8 E6 U) rfl<|Lq (o2 Gp U U) rfl<|qm U ?_;refine Lb U (fun g3=>?_) (fun g3=>?_);have h3:=dT g3;refine Lh U ‹_› (om U)<|Lh U ‹_› (on U)<|Lq (oT U ‹_› U) rfl<|qm U ?_;refine Lb U (fun g4=>?_) (fun g4=>?_);have h4:=FB g4;refine Lh U ‹_› (om U)<|Lh U ‹_› (on U)<|Lq (oT U ‹_› U) rfl<|qm U ?_;refine Lb U (fun g5=>?_) (fun g5=>?_);have h5:=FB g5;refine Lh U ‹_› (om U)<|Lh U ‹_› (on U)<|Lq (oT U ‹_› U) rfl<|qm U ?_;refine Lb U (fun g6=>?_) (fun g6=>?_);have h6:=FB g6;refine Lh U ‹_› (om U)<|Lh U ‹_› (on U)<|Lq (oT U ‹_› U) rfl<|qa rfl<|Ld ?_;rotate_left;have h6:=FC g6;iterate 2 refine Lk U ‹_› ?_
   refine Lq (oF U ‹_› U) rfl<|qa rfl<|Ld ?_;rotate_left;have h5:=FC g5;iterate 2 refine Lk U ‹_› ?_
   refine Lq (oF U ‹_› U) rfl<|qm U ?_;iterate 2 refine Lk U U ?_
   refine Lq (oF U U U) rfl<|qa rfl<|Ld ?_;rotate_left;have h4:=FC g4;iterate 2 refine Lk U ‹_› ?_
   refine Lq (oF U ‹_› U) rfl<|qm U ?_;iterate 2 refine Lk U U ?_
   refine Lq (oF U U U) rfl<|qm U ?_;iterate 2 refine Lk U U ?_
   refine Lq (oF U U U) rfl<|qa rfl<|Ld ?_;rotate_left;have h3:=dF g3;iterate 2 refine Lk U ‹_› ?_
   refine Lq (oF U ‹_› U) rfl<|qm U ?_;iterate 2 refine Lk U U ?_
   refine Lq (oF U U U) rfl<|qm U ?_;iterate 2 refine Lk U U ?_
   refine Lq (oF U U U) rfl<|qm U ?_;iterate 2 refine Lk U U ?_
   refine Lq (oF U U U) rfl<|qa rfl<|Ld ?_;rotate_left
  ·refine⟨rfl,rfl,rfl,?_⟩;have e:na x=(!eF x):=by unfold na;rw[g3,g4,g5,g6];rfl
   rw[e]
   (refine Am.Ao ?_;repeat (first|exact trivial|refine⟨rfl,?_⟩))
  ·refine⟨rfl,rfl,rfl,?_⟩;have e:na x=(false):=by unfold na;rw[g3,g4,g5,g6];rfl
   rw[e]
   (refine Am.Ao ?_;repeat (first|exact trivial|refine⟨rfl,?_⟩))
  ·refine⟨rfl,rfl,rfl,?_⟩;have e:na x=(false):=by unfold na;rw[g3,g4,g5];rfl
   rw[e]
   (refine Am.Ao ?_;repeat (first|exact trivial|refine⟨rfl,?_⟩))
  ·refine⟨rfl,rfl,rfl,?_⟩;have e:na x=(false):=by unfold na;rw[g3,g4];rfl
   rw[e]
   (refine Am.Ao ?_;repeat (first|exact trivial|refine⟨rfl,?_⟩))
  ·refine⟨rfl,rfl,rfl,?_⟩;have e:na x=(false):=by unfold na;rw[g3];rfl
   rw[e]
   (refine Am.Ao ?_;repeat (first|exact trivial|refine⟨rfl,?_⟩))
 refine Ec U (fun g3=>?_) (fun g3=>?_)
 ·refine Es ?_;refine Lq (Bj U TH U U) rfl<|Lq (DF U U6 U) rfl<|qa rfl<|Ld ?_;refine Ab (Er U ?_);unfold VY;rw[g1,g2,g3];rfl
 skip
 refine Ch.cut [(92,.bool (nN x)),(6,.bool (eF x)),(5,.bool (mZ x)),(4,.bool (lQ x)),(3,.bool (mK x)),(2,.C8),(1,.ptr 0 0)] (WZ 1 0 [] [(0,some (.cells (WN x) 58 false))]) ?_ ?_
 ·focus
   refine Ai<|Lq (of Df U) rfl<|Lo (l1 E8 E6 U) rfl<|Lq (o2 Gp U U) rfl<|qm U ?_;refine Lb U (fun g4=>?_) (fun g4=>?_);have h4:=dT g4;refine Lh U ‹_› (om U)<|Lh U ‹_› (on U)<|Lq (oT U ‹_› U) rfl<|qm U ?_;refine Lb U (fun g5=>?_) (fun g5=>?_);have h5:=FB g5;refine Lh U ‹_› (om U)<|Lh U ‹_› (on U)<|Lq (oT U ‹_› U) rfl<|qm U ?_;refine Lb U (fun g6=>?_) (fun g6=>?_);have h6:=FB g6;refine Lh U ‹_› (om U)<|Lh U ‹_› (on U)<|Lq (oT U ‹_› U) rfl<|qm U ?_;refine Lb U (fun g7=>?_) (fun g7=>?_);have h7:=FB g7;refine Lh U ‹_› (om U)<|Lh U ‹_› (on U)<|Lq (oT U ‹_› U) rfl<|qa rfl<|Ld ?_;rotate_left;have h7:=FC g7;iterate 2 refine Lk U ‹_› ?_
   refine Lq (oF U ‹_› U) rfl<|qa rfl<|Ld ?_;rotate_left;have h6:=FC g6;iterate 2 refine Lk U ‹_› ?_
   refine Lq (oF U ‹_› U) rfl<|qm U ?_;iterate 2 refine Lk U U ?_
   refine Lq (oF U U U) rfl<|qa rfl<|Ld ?_;rotate_left;have h5:=FC g5;iterate 2 refine Lk U ‹_› ?_
   refine Lq (oF U ‹_› U) rfl<|qm U ?_;iterate 2 refine Lk U U ?_
   refine Lq (oF U U U) rfl<|qm U ?_;iterate 2 refine Lk U U ?_
   refine Lq (oF U U U) rfl<|qa rfl<|Ld ?_;rotate_left;have h4:=dF g4;iterate 2 refine Lk U ‹_› ?_
   refine Lq (oF U ‹_› U) rfl<|qm U ?_;iterate 2 refine Lk U U ?_
   refine Lq (oF U U U) rfl<|qm U ?_;iterate 2 refine Lk U U ?_
   refine Lq (oF U U U) rfl<|qm U ?_;iterate 2 refine Lk U U ?_
   refine Lq (oF U U U) rfl<|qa rfl<|Ld ?_;rotate_left
  ·refine⟨rfl,rfl,rfl,?_⟩;have e:nN x=(!eF x):=by unfold nN;rw[g4,g5,g6,g7];rfl
   rw[e]
   (refine Am.Ao ?_;repeat (first|exact trivial|refine⟨rfl,?_⟩))
  ·refine⟨rfl,rfl,rfl,?_⟩;have e:nN x=(false):=by unfold nN;rw[g4,g5,g6,g7];rfl
   rw[e]
   (refine Am.Ao ?_;repeat (first|exact trivial|refine⟨rfl,?_⟩))
  ·refine⟨rfl,rfl,rfl,?_⟩;have e:nN x=(false):=by unfold nN;rw[g4,g5,g6];rfl
   rw[e]
   (refine Am.Ao ?_;repeat (first|exact trivial|refine⟨rfl,?_⟩))
  ·refine⟨rfl,rfl,rfl,?_⟩;have e:nN x=(false):=by unfold nN;rw[g4,g5];rfl
   rw[e]
   (refine Am.Ao ?_;repeat (first|exact trivial|refine⟨rfl,?_⟩))
  ·refine⟨rfl,rfl,rfl,?_⟩;have e:nN x=(false):=by unfold nN;rw[g4];rfl
   rw[e]
   (refine Am.Ao ?_;repeat (first|exact trivial|refine⟨rfl,?_⟩))
 refine Ec U (fun g4=>?_) (fun g4=>?_)
 ·refine Es ?_;refine Lq (Bj U TG U U) rfl<|Lq (DF U U5 U) rfl<|qa rfl<|Ld ?_;refine Ab (Er U ?_);unfold VY;rw[g1,g2,g3,g4];rfl
 skip
 refine Ch.cut [(114,.bool (pZ x)),(6,.bool (eF x)),(5,.bool (mZ x)),(4,.bool (lQ x)),(3,.bool (mK x)),(2,.C8),(1,.ptr 0 0)] (WZ 1 0 [] [(0,some (.cells (WN x) 58 false))]) ?_ ?_
 ·focus
   refine Ai<|Lq (of Df U) rfl<|Lo (l1 E8 E6 U) rfl<|Lq (o2 Gp U U) rfl<|qm U ?_;refine Lb U (fun g5=>?_) (fun g5=>?_);have h5:=dT g5;refine Lh U ‹_› (om U)<|Lh U ‹_› (on U)<|Lq (oT U ‹_› U) rfl<|qm U ?_;refine Lb U (fun g6=>?_) (fun g6=>?_);have h6:=FB g6;refine Lh U ‹_› (om U)<|Lh U ‹_› (on U)<|Lq (oT U ‹_› U) rfl<|qm U ?_;refine Lb U (fun g7=>?_) (fun g7=>?_);have h7:=FB g7;refine Lh U ‹_› (om U)<|Lh U ‹_› (on U)<|Lq (oT U ‹_› U) rfl<|qa rfl<|Ld ?_;rotate_left;have h7:=FC g7;iterate 2 refine Lk U ‹_› ?_
   refine Lq (oF U ‹_› U) rfl<|qa rfl<|Ld ?_;rotate_left;have h6:=FC g6;iterate 2 refine Lk U ‹_› ?_
   refine Lq (oF U ‹_› U) rfl<|qm U ?_;iterate 2 refine Lk U U ?_
   refine Lq (oF U U U) rfl<|qa rfl<|Ld ?_;rotate_left;have h5:=dF g5;iterate 2 refine Lk U ‹_› ?_
   refine Lq (oF U ‹_› U) rfl<|qm U ?_;iterate 2 refine Lk U U ?_
   refine Lq (oF U U U) rfl<|qm U ?_;iterate 2 refine Lk U U ?_
   refine Lq (oF U U U) rfl<|qa rfl<|Ld ?_;rotate_left
  ·refine⟨rfl,rfl,rfl,?_⟩;have e:pZ x=(!mZ x):=by unfold pZ;rw[g5,g6,g7];rfl
   rw[e]
   (refine Am.Ao ?_;repeat (first|exact trivial|refine⟨rfl,?_⟩))
  ·refine⟨rfl,rfl,rfl,?_⟩;have e:pZ x=(false):=by unfold pZ;rw[g5,g6,g7];rfl
   rw[e]
   (refine Am.Ao ?_;repeat (first|exact trivial|refine⟨rfl,?_⟩))
  ·refine⟨rfl,rfl,rfl,?_⟩;have e:pZ x=(false):=by unfold pZ;rw[g5,g6];rfl
   rw[e]
   (refine Am.Ao ?_;repeat (first|exact trivial|refine⟨rfl,?_⟩))
  ·refine⟨rfl,rfl,rfl,?_⟩;have e:pZ x=(false):=by unfold pZ;rw[g5];rfl
   rw[e]
   (refine Am.Ao ?_;repeat (first|exact trivial|refine⟨rfl,?_⟩))
 refine Ec U (fun g5=>?_) (fun g5=>?_)
 ·refine Es ?_;refine Lq (of Hs U) rfl<|Lo (l1 KJ Jh U) rfl<|Lq (of De U) rfl<|Lo (l1 Bv Bb U) rfl<|Lq (of FG U) rfl<|Lo (l1 BJ B9 U) rfl<|Lq (Bj U TJ U U) rfl<|Lq (DF U G8 U) rfl<|qa rfl<|Ld ?_;refine Ab (Er U ?_);unfold VY;rw[g1,g2,g3,g4,g5];rfl
 skip
 refine Ch.cut [(138,.bool (qb x)),(6,.bool (eF x)),(5,.bool (mZ x)),(4,.bool (lQ x)),(3,.bool (mK x)),(2,.C8),(1,.ptr 0 0)] (WZ 1 0 [] [(0,some (.cells (WN x) 58 false))]) ?_ ?_
 ·focus
   refine Ai<|Lq (of Df U) rfl<|Lo (l1 E8 E6 U) rfl<|Lq (o2 Gp U U) rfl<|qm U ?_;refine Lb U (fun g6=>?_) (fun g6=>?_);have h6:=dT g6;refine Lh U ‹_› (om U)<|Lh U ‹_› (on U)<|Lq (oT U ‹_› U) rfl<|qm U ?_;refine Lb U (fun g7=>?_) (fun g7=>?_);have h7:=FB g7;refine Lh U ‹_› (om U)<|Lh U ‹_› (on U)<|Lq (oT U ‹_› U) rfl<|qm U ?_;refine Lb U (fun g8=>?_) (fun g8=>?_);have h8:=FB g8;refine Lh U ‹_› (om U)<|Lh U ‹_› (on U)<|Lq (oT U ‹_› U) rfl<|qa rfl<|Ld ?_;rotate_left;have h8:=FC g8;iterate 2 refine Lk U ‹_› ?_
   refine Lq (oF U ‹_› U) rfl<|qa rfl<|Ld ?_;rotate_left;have h7:=FC g7;iterate 2 refine Lk U ‹_› ?_
   refine Lq (oF U ‹_› U) rfl<|qm U ?_;iterate 2 refine Lk U U ?_
   refine Lq (oF U U U) rfl<|qa rfl<|Ld ?_;rotate_left;have h6:=dF g6;iterate 2 refine Lk U ‹_› ?_
   refine Lq (oF U ‹_› U) rfl<|qm U ?_;iterate 2 refine Lk U U ?_
   refine Lq (oF U U U) rfl<|qm U ?_;iterate 2 refine Lk U U ?_
   refine Lq (oF U U U) rfl<|qa rfl<|Ld ?_;rotate_left
  ·refine⟨rfl,rfl,rfl,?_⟩;have e:qb x=(!eF x):=by unfold qb;rw[g6,g7,g8];rfl
   rw[e]
   (refine Am.Ao ?_;repeat (first|exact trivial|refine⟨rfl,?_⟩))
  ·refine⟨rfl,rfl,rfl,?_⟩;have e:qb x=(false):=by unfold qb;rw[g6,g7,g8];rfl
   rw[e]
   (refine Am.Ao ?_;repeat (first|exact trivial|refine⟨rfl,?_⟩))
  ·refine⟨rfl,rfl,rfl,?_⟩;have e:qb x=(false):=by unfold qb;rw[g6,g7];rfl
   rw[e]
   (refine Am.Ao ?_;repeat (first|exact trivial|refine⟨rfl,?_⟩))
  ·refine⟨rfl,rfl,rfl,?_⟩;have e:qb x=(false):=by unfold qb;rw[g6];rfl
   rw[e]
   (refine Am.Ao ?_;repeat (first|exact trivial|refine⟨rfl,?_⟩))
 refine Ec U (fun g6=>?_) (fun g6=>?_)
 ·refine Es ?_;refine Lq (of E1 U) rfl<|Lo (l1 Bv Bb U) rfl<|Lq (Bj U TI U U) rfl<|Lq (DF U LC U) rfl<|qa rfl<|Ld ?_;refine Ab (Er U ?_);unfold VY;rw[g1,g2,g3,g4,g5,g6];rfl
 refine Ac<|Es<|qa rfl<|Ld ?_;refine Ab (Er U ?_);unfold VY;rw[g1,g2,g3,g4,g5,g6];rfl
section
variable {K : FuncId → List AV → Option AV} {m : Nat}
def tL (p:Int→Bool) (l:List Int):Int:=if mY (fun x=> !p x) l<l.length then((mY (fun x=> !p x) l:Nat):Int)else-1
theorem tM {p:Int→Bool} {l:List Int}:decide (0≤tL p l)=l.any p:=by
 rw[SX];unfold tL;by_cases h:mY (fun x=> !p x) l<l.length
 ·rw[if_pos h,decide_eq_true h,decide_eq_true (by omega)]
 ·rw[if_neg h,decide_eq_false h];rfl
theorem M1 (hK:K 120=fun _=>none) {g:FuncId} {cap:List AV} {p:Int→Bool} {st:St} (hb:CI (CX m K) g=true)
 (XK:∀s',s'.heap=st.heap→s'.next=st.next→∀r,Cb (CX m K) g (.int .i64 r::cap) s' (.bool (p r))) (l:List Int) (hn:l.length≤4000):
 Cb (CX m K) 120 [Cq CY 1 l,.func (.func g) [] cap] st (.int .i64 (tL p l)):=by
 refine Cb.flat (fn:=Tryz.f120) (by show K 120 _=none;rw[hK]) (by kernel_rfl) U U U U (fun _ _=>rfl) (fun _=>rfl) ?_;have hle:=twA_le (fun x=> !p x) l;refine Es<|qa rfl<|Ld<|Aa<|Es<|qm rfl<|Lq (ol Ea U) rfl<|qm rfl<|Ld<|Ch.block ?_;refine Aw (fun i:Nat=>([(8,.int .i64 (i:Nat)),(7,.int .i64 (l.length:Nat)),(1,.func (.func g) [] cap),(0,Cq CY 1 l)],st.enter)) (fun i=>l.length-i) (fun i=>i≤mY (fun x=> !p x) l) 0 (Qo _) U (Ao (by repeat' constructor)) ?_;intro i hi;dsimp only at hi⊢;by_cases h:i<l.length
 ·have hp:=A7 Bi h;have hs:=Qw (p:=fun x=> !p x) hi (Qi h);focus
   refine Es<|Lq (o2 Ck U U) rfl<|Ld<|Aa ?_;refine Ec U (fun g1=>?_) (fun g1=>?_);have h1:=dT g1;refine Ac<|Aa<|Ch.block<|Es<|qm rfl<|qa rfl<|Ld<|Es ?_;iterate 3 refine qm U ?_
   refine Lq (Ae U Ea Bb U U ‹_›) rfl<|Lq (Av U U Bv Bb) U ?_;rotate_left;have h1:=dF g1;exact absurd h1 (by omega)
  refine Lo (Gn U U U hb U (XK st.enter U U l[i])) U ?_;focus
   refine Ld ?_;refine Ec U (fun g2=>?_) (fun g2=>?_);refine Es<|qm rfl<|qa rfl<|Ld ?_;rotate_left;refine Ac<|Ai ?_;refine Lq (Ap (b:=1) U Ck U U (by omega)) U ?_;refine qm rfl<|Ld ?_;rotate_left
  ·refine Ab ⟨.inl U,rfl,rfl,_,An U U,?_⟩;have e:i=mY (fun x=> !p x) l:=by
    rw[g2]at hs;have:=mt hs.2 (by simp);omega
   unfold tL;rw[←e,if_pos h];rfl
  ·refine⟨i+1,?_,by show l.length-(i+1)<l.length-i;omega,rfl,rfl,Ao (by repeat' constructor)⟩;rw[g2]at hs;have:=hs.1 rfl;omega
 ·focus
   refine Es<|Lq (o2 Ck U U) rfl<|Ld<|Aa ?_;refine Ec U (fun g1=>?_) (fun g1=>?_);have h1:=dT g1;exact absurd h1 (by omega);have h1:=dF g1;refine A1<|AS rfl<|Es<|qa rfl<|Ld ?_;rotate_left
  refine Ab ⟨.inl U,rfl,rfl,_,An U U,?_⟩;unfold tL;rw[if_neg (by omega)];rfl
theorem Ow (hK:K 120=fun _=>none) (oP:K 70=fun _=>none) {g:FuncId} {cap:List AV} {st:St}:
 Cb (CX m K) 70 [.Ca,.func (.func g) [] cap] st (.bool false):=by
 refine Cb.flat (fn:=Tryz.f70) (by show K 70 _=none;rw[oP]) (by kernel_rfl) U U U U (fun _ _=>rfl) (fun _=>rfl) ?_;have hi:Cb (CX m K) 120 [.Ca,.func (.func g) [] cap] st.enter (.int .i64 (-1)):=by
  refine Cb.flat (fn:=Tryz.f120) (by show K 120 _=none;rw[hK]) (by kernel_rfl) U U U U (fun _ _=>rfl) (fun _=>rfl) ?_;refine Es<|qa rfl<|Ld<|Aa<|Es<|qm rfl<|Lq (IP U U U U Ea U) rfl<|qm rfl<|Ld<|Ch.block<|Dw<|Es<|Lq (o2 Ck U U) rfl<|Ld<|Aa<|Af U U ?_;refine A1<|AS rfl<|Es<|qa rfl<|Ld ?_;exact Ab ⟨.inl U,rfl,rfl,_,An U U,rfl⟩
 refine Es<|qa rfl<|Ld<|Es ?_;iterate 2 refine qm U ?_
 refine Lo (Ad U U (by kernel_rfl) U hi) rfl<|Lq (o2 Ck U U) rfl<|qa rfl<|Ld ?_;exact Ab ⟨.inl U,rfl,rfl,_,An U U,rfl⟩
theorem K3 (hK:K 120=fun _=>none) (oP:K 70=fun _=>none) {g:FuncId} {cap:List AV} {p:Int→Bool} {st:St} (hb:CI (CX m K) g=true)
 (XK:∀s',s'.heap=st.heap→s'.next=st.next→∀r,Cb (CX m K) g (.int .i64 r::cap) s' (.bool (p r))) (l:List Int) (hn:l.length≤4000):
 Cb (CX m K) 70 [Cq CY 1 l,.func (.func g) [] cap] st (.bool (l.any p)):=by
 refine Cb.flat (fn:=Tryz.f70) (by show K 70 _=none;rw[oP]) (by kernel_rfl) U U U U (fun _ _=>rfl) (fun _=>rfl) ?_;have hi:=M1 hK (st:=st.enter) hb (fun s' h1 h2 r=>XK s' h1 h2 r) l hn;refine Es<|qa rfl<|Ld<|Es ?_;iterate 2 refine qm U ?_
 refine Lo (Ad U U (by kernel_rfl) U hi) rfl<|Lq (o2 Ck U U) rfl<|qa rfl<|Ld ?_;refine Ab ⟨.inl U,rfl,rfl,_,An U U,?_⟩;rw[←tM];rfl
end
noncomputable def K11:=Wa K10 51 (fun x:VI=>[.agg (WN x)]) (fun x=>shA (VY x))
theorem Ja {x:VI}:K11 51 [.agg (WN x)]=some (shA (VY x)):=
 A3 (f:=51) (enc:=fun x:VI=>[.agg (WN x)]) (res:=fun x=>shA (VY x)) (fun a b h=>by rw[Js _ _ (AV.agg.inj (List.cons.inj h).1)]) x
theorem RJ (s:ShT):Cr 40 (shA s)=true:=by cases s<;>rfl
theorem all11 (h:VG Tryz.prog 10 [] (.bool true)):CK Tryz.prog K11:=Do AC (all10 h) (fun x=>To x) (fun _=>rfl) (fun _=>RJ _)
def tN (op n:Int) (args:List Int):AV:= .agg [.int .i64 op,.int .i64 n,Cq CY 1 args]
theorem Ul {cons Co:List CD} {t n:Int} {k:Nat} (ht:t=6∨t=7∨9≤t∧t≤15):Xf cons Co t n k=(decide (n=0)&&decide ((k:Int)=2)):=by
 unfold Xf;rw[if_neg (by omega),if_neg (by omega),if_neg (by omega),if_neg (by omega),if_pos ht]
theorem tO {cons Co:List CD} {t n:Int} {k:Nat} (ht:t=6∨t=7∨9≤t∧t≤15) (hn:n=0):decide ((k:Int)=2)=Xf cons Co t n k:=by rw[Ul ht,decide_eq_true hn];rfl
theorem tP {cons Co:List CD} {t n:Int} {k:Nat} (ht:t=6∨t=7∨9≤t∧t≤15) (hn:¬n=0):false=Xf cons Co t n k:=by rw[Ul ht,decide_eq_false hn];rfl
theorem xC {cons Co:List CD} {t n:Int} {k:Nat} (ht:¬(t=2∨t=3∨t=4∨t=5∨t=6∨t=7∨9≤t∧t≤15)):false=Xf cons Co t n k:=by
 unfold Xf;rw[if_neg (by omega),if_neg (by omega),if_neg (by omega),if_neg (by omega),if_neg (by omega)]
theorem tQ (cons Co:List CD) (op n:Int) (args:List Int) (hc:cons.length≤4000) (hf:Co.length≤4000):Cb (EK K11) 81 [.agg [Cq Cy 2 cons,Cq Cy 2 Co],tN op n args] S0 (.bool (Xf cons Co op n args.length)):=by
 refine Aq (fn:=Tryz.f81) U U (by kernel_rfl) U U U U ?_;focus
  refine Es<|Lo (A4 1 U U U U) rfl<|Lo (A4 2 U U U U) rfl<|qa rfl<|Ld<|Es<|Lq (of Kq U) rfl<|Lo (l1 BJ B9 U) rfl<|Lq (ol Ea U) rfl<|qa rfl<|Ld<|Aa<|Es<|Lq (of ME U) rfl<|Lo (l1 KJ Jh U) rfl<|Ld ?_;refine Ch.block<|Es<|Lq (o2 Hx U U) rfl<|qa rfl<|Ld ?_;refine Ec U (fun g1=>?_) (fun g1=>?_);have h1:=dT g1;refine Es<|Lq (of Da U) rfl<|Lo (l1 Bv Bb U) U ?_;refine Lo (Ad U U (by kernel_rfl) U (Cb.Cs (Jb))) rfl<|qm U ?_;refine Lb U (fun g2=>?_) (fun g2=>?_);refine Lh U ‹_› (om U)<|Lh U ‹_› (o2 Ck U U)<|Lq (oT U ‹_› U) rfl<|qa rfl<|Ld ?_;refine Ab (Er U ?_);refine Ag ?_;rotate_left;iterate 2 refine Lk U ‹_› ?_
  refine Lq (oF U ‹_› U) rfl<|qa rfl<|Ld ?_;refine Ab (Er U ?_);refine Ag ?_;rotate_left;have h1:=dF g1;refine Es<|Lq (o2 Hx U U) rfl<|qa rfl<|Ld ?_;refine Ec U (fun g3=>?_) (fun g3=>?_);have h3:=dT g3;refine Es<|Lq (of Da U) rfl<|Lo (l1 Bv Bb U) rfl<|Lq (of BA U) rfl<|Lo (l1 Bn Bk U) rfl<|Lq (ol D3 U) rfl<|Lq (Wj.sub U Ck U U (by omega)) U ?_;refine Lo (Ad U U (by kernel_rfl) U (Cb.Cs (Jb))) rfl<|qm U ?_;refine Lb U (fun g4=>?_) (fun g4=>?_);refine Lh U ‹_› (om U)<|Lh U ‹_› (of BA U)<|Lg U ‹_› (l1 Bn Bk U)<|Lh U ‹_› (of Da U)<|Lg U ‹_› (l1 Bv Bb U) ?_;rotate_left;iterate 9 refine Lk U ‹_› ?_
  refine Lq (oF U ‹_› U) rfl<|qa rfl<|Ld ?_;refine Ab (Er U ?_);refine Ag ?_;rotate_left;have h3:=dF g3;refine Es<|Lq (o2 Hx U U) rfl<|qa rfl<|Ld ?_;refine Ec U (fun g5=>?_) (fun g5=>?_);have h5:=dT g5;refine Es<|Lq (of Da U) rfl<|Lo (l1 Bv Bb U) rfl<|Lq (of BF U) rfl<|Lo (l1 Bn Bk U) rfl<|Lq (ol D3 U) rfl<|Lq (Wj.sub U Ck U U (by omega)) U ?_;refine Lo (Ad U U (by kernel_rfl) U (Cb.Cs (Jb))) rfl<|qm U ?_;refine Lb U (fun g6=>?_) (fun g6=>?_);refine Lh U ‹_› (om U)<|Lh U ‹_› (of BF U)<|Lg U ‹_› (l1 Bn Bk U)<|Lh U ‹_› (of Da U)<|Lg U ‹_› (l1 Bv Bb U) ?_;rotate_left;iterate 9 refine Lk U ‹_› ?_
  refine Lq (oF U ‹_› U) rfl<|qa rfl<|Ld ?_;refine Ab (Er U ?_);refine Ag ?_;rotate_left;have h5:=dF g5;refine Es<|Lq (o2 Hx U U) rfl<|qa rfl<|Ld ?_;refine Ec U (fun g7=>?_) (fun g7=>?_);have h7:=dT g7;refine Es<|Lq (of Da U) rfl<|Lo (l1 Bv Bb U) rfl<|Lq (of BF U) rfl<|Lo (l1 Bn Bk U) rfl<|Lq (ol D3 U) rfl<|Lq (Wj.sub U Ck U U (by omega)) U ?_;refine Lo (Ad U U (by kernel_rfl) U (Cb.Cs (Jb))) rfl<|qm U ?_;refine Lb U (fun g8=>?_) (fun g8=>?_);refine Lh U ‹_› (om U)<|Lh U ‹_› (of BF U)<|Lg U ‹_› (l1 Bn Bk U)<|Lh U ‹_› (of Da U)<|Lg U ‹_› (l1 Bv Bb U) ?_;rotate_left;iterate 9 refine Lk U ‹_› ?_
  refine Lq (oF U ‹_› U) rfl<|qa rfl<|Ld ?_;refine Ab (Er U ?_);refine Ag ?_;rotate_left;have h7:=dF g7;refine Aa<|Es<|Lq (o2 Hx U U) rfl<|qa rfl<|Ld ?_;refine Ec U (fun g9=>?_) (fun g9=>?_);have h9:=dT g9;refine Ac<|Ah U ‹_›<|Es<|Lq (of Da U) rfl<|Lo (l1 Bv Bb U) rfl<|Lq (o2 Ck U U) rfl<|qm U ?_;refine Lb U (fun xn=>?_) (fun xn=>?_);have h10:=dT xn;refine Lh U ‹_› (om U)<|Lh U ‹_› (o2 Ck U U)<|Lq (oT U ‹_› U) rfl<|qa rfl<|Ld ?_;refine Ab (Er U ?_);refine Ag ?_;rotate_left;have h10:=dF xn;iterate 2 refine Lk U ‹_› ?_
  refine Lq (oF U ‹_› U) rfl<|qa rfl<|Ld ?_;refine Ab (Er U ?_);refine Ag ?_;rotate_left;have h9:=dF g9;refine Es<|Lq (o2 Hx U U) rfl<|qa rfl<|Ld ?_;refine Ec U (fun tu=>?_) (fun tu=>?_);have h11:=dT tu;refine Ac<|Ah U ‹_›<|Es<|Lq (of Da U) rfl<|Lo (l1 Bv Bb U) rfl<|Lq (o2 Ck U U) rfl<|qm U ?_;refine Lb U (fun pY=>?_) (fun pY=>?_);have xp:=dT pY;refine Lh U ‹_› (om U)<|Lh U ‹_› (o2 Ck U U)<|Lq (oT U ‹_› U) rfl<|qa rfl<|Ld ?_;refine Ab (Er U ?_);refine Ag ?_;rotate_left;have xp:=dF pY;iterate 2 refine Lk U ‹_› ?_
  refine Lq (oF U ‹_› U) rfl<|qa rfl<|Ld ?_;refine Ab (Er U ?_);refine Ag ?_;rotate_left;have h11:=dF tu;refine Es<|Lq (o2 Hx U U) rfl<|qa rfl<|Ld ?_;refine Ec U (fun lv=>?_) (fun lv=>?_);have tv:=dT lv;refine Ac<|Ah U ‹_›<|Es<|Lq (of Da U) rfl<|Lo (l1 Bv Bb U) rfl<|Lq (o2 Ck U U) rfl<|qm U ?_;refine Lb U (fun xq=>?_) (fun xq=>?_);have h14:=dT xq;refine Lh U ‹_› (om U)<|Lh U ‹_› (o2 Ck U U)<|Lq (oT U ‹_› U) rfl<|qa rfl<|Ld ?_;refine Ab (Er U ?_);refine Ag ?_;rotate_left;have h14:=dF xq;iterate 2 refine Lk U ‹_› ?_
  refine Lq (oF U ‹_› U) rfl<|qa rfl<|Ld ?_;refine Ab (Er U ?_);refine Ag ?_;rotate_left;have tv:=dF lv;refine Es<|Lq (o2 Hx U U) rfl<|qa rfl<|Ld ?_;refine Ec U (fun tx=>?_) (fun tx=>?_);have xr:=dT tx;refine Ac<|Ah U ‹_›<|Es<|Lq (of Da U) rfl<|Lo (l1 Bv Bb U) rfl<|Lq (o2 Ck U U) rfl<|qm U ?_;refine Lb U (fun pJ=>?_) (fun pJ=>?_);have h16:=dT pJ;refine Lh U ‹_› (om U)<|Lh U ‹_› (o2 Ck U U)<|Lq (oT U ‹_› U) rfl<|qa rfl<|Ld ?_;refine Ab (Er U ?_);refine Ag ?_;rotate_left;have h16:=dF pJ;iterate 2 refine Lk U ‹_› ?_
  refine Lq (oF U ‹_› U) rfl<|qa rfl<|Ld ?_;refine Ab (Er U ?_);refine Ag ?_;rotate_left;have xr:=dF tx;refine Es<|Lq (o2 Hx U U) rfl<|qa rfl<|Ld ?_;refine Ec U (fun tz=>?_) (fun tz=>?_);have h17:=dT tz;refine Ac<|Ah U ‹_›<|Es<|Lq (of Da U) rfl<|Lo (l1 Bv Bb U) rfl<|Lq (o2 Ck U U) rfl<|qm U ?_;refine Lb U (fun tA=>?_) (fun tA=>?_);have h18:=dT tA;refine Lh U ‹_› (om U)<|Lh U ‹_› (o2 Ck U U)<|Lq (oT U ‹_› U) rfl<|qa rfl<|Ld ?_;refine Ab (Er U ?_);refine Ag ?_;rotate_left;have h18:=dF tA;iterate 2 refine Lk U ‹_› ?_
  refine Lq (oF U ‹_› U) rfl<|qa rfl<|Ld ?_;refine Ab (Er U ?_);refine Ag ?_;rotate_left;have h17:=dF tz;refine Es<|Lq (o2 Hx U U) rfl<|qa rfl<|Ld ?_;refine Ec U (fun tB=>?_) (fun tB=>?_);have h19:=dT tB;refine Ac<|Ah U ‹_›<|Es<|Lq (of Da U) rfl<|Lo (l1 Bv Bb U) rfl<|Lq (o2 Ck U U) rfl<|qm U ?_;refine Lb U (fun tC=>?_) (fun tC=>?_);have h20:=dT tC;refine Lh U ‹_› (om U)<|Lh U ‹_› (o2 Ck U U)<|Lq (oT U ‹_› U) rfl<|qa rfl<|Ld ?_;refine Ab (Er U ?_);refine Ag ?_;rotate_left;have h20:=dF tC;iterate 2 refine Lk U ‹_› ?_
  refine Lq (oF U ‹_› U) rfl<|qa rfl<|Ld ?_;refine Ab (Er U ?_);refine Ag ?_;rotate_left;have h19:=dF tB;refine Es<|Lq (o2 Hx U U) rfl<|qa rfl<|Ld ?_;refine Ec U (fun xu=>?_) (fun xu=>?_);have h21:=dT xu;refine Ac<|Ah U ‹_›<|Es<|Lq (of Da U) rfl<|Lo (l1 Bv Bb U) rfl<|Lq (o2 Ck U U) rfl<|qm U ?_;refine Lb U (fun tD=>?_) (fun tD=>?_);have h22:=dT tD;refine Lh U ‹_› (om U)<|Lh U ‹_› (o2 Ck U U)<|Lq (oT U ‹_› U) rfl<|qa rfl<|Ld ?_;refine Ab (Er U ?_);refine Ag ?_;rotate_left;have h22:=dF tD;iterate 2 refine Lk U ‹_› ?_
  refine Lq (oF U ‹_› U) rfl<|qa rfl<|Ld ?_;refine Ab (Er U ?_);refine Ag ?_;rotate_left;have h21:=dF xu;refine Es<|Lq (o2 Hx U U) rfl<|qa rfl<|Ld ?_;refine Ec U (fun xw=>?_) (fun xw=>?_);have h23:=dT xw;refine Ac<|Ah U ‹_›<|Es<|Lq (of Da U) rfl<|Lo (l1 Bv Bb U) rfl<|Lq (o2 Ck U U) rfl<|qm U ?_;refine Lb U (fun tE=>?_) (fun tE=>?_);have h24:=dT tE;refine Lh U ‹_› (om U)<|Lh U ‹_› (o2 Ck U U)<|Lq (oT U ‹_› U) rfl<|qa rfl<|Ld ?_;refine Ab (Er U ?_);refine Ag ?_;rotate_left;have h24:=dF tE;iterate 2 refine Lk U ‹_› ?_
  refine Lq (oF U ‹_› U) rfl<|qa rfl<|Ld ?_;refine Ab (Er U ?_);refine Ag ?_;rotate_left;have h23:=dF xw;refine Ai<|Lq (o2 Hx U U) rfl<|qa rfl<|Ld ?_;refine Ec U (fun tF=>?_) (fun tF=>?_);have h25:=dT tF;refine Es<|Lq (of Da U) rfl<|Lo (l1 Bv Bb U) rfl<|Lq (o2 Ck U U) rfl<|qm U ?_;refine Lb U (fun g26=>?_) (fun g26=>?_);have h26:=dT g26;refine Lh U ‹_› (om U)<|Lh U ‹_› (o2 Ck U U)<|Lq (oT U ‹_› U) rfl<|qa rfl<|Ld ?_;refine Ab (Er U ?_);refine Ag ?_;rotate_left;have h26:=dF g26;iterate 2 refine Lk U ‹_› ?_
  refine Lq (oF U ‹_› U) rfl<|qa rfl<|Ld ?_;refine Ab (Er U ?_);refine Ag ?_;rotate_left;have h25:=dF tF;refine Ac<|Es<|qa rfl<|Ld ?_;refine Ab (Er U ?_);refine Ag ?_;rotate_left
 ·simp only[Xf,h1,if_true,g2,Bool.and_true]
 ·simp only[Xf,h1,if_true,g2,Bool.and_false]
 ·obtain⟨hz,C6⟩:=aA.1 g4;have hp:=A7 AN (l:=cons) (i:=n.toNat) (by omega);refine Lh U ‹_› (Dh U D3 BB U U (by first|assumption|omega) ‹_›)<|Lh U ‹_› (Az U Fw U (Qc U))<|Lh U ‹_› (Av U U Bv Bb)<|Lh U ‹_› (o2 Ck U U)<|Lq (oT U ‹_› U) rfl<|qa rfl<|Ld ?_;refine Ab (Er U ?_);refine Ag ?_;simp only[Xf,h3,g4,arity,Dj (l:=cons) (i:=n.toNat) (d:=([],0)) (by omega)];rfl
 ·simp only[Xf,h3,g4];rfl
 ·obtain⟨hz,C6⟩:=aA.1 g6;have hp:=A7 AN (l:=Co) (i:=n.toNat) (by omega);refine Lh U ‹_› (Dh U D3 BB U U (by first|assumption|omega) ‹_›)<|Lh U ‹_› (Az U Fw U (Qc U))<|Lh U ‹_› (Av U U Bv Bb)<|Lh U ‹_› (o2 Ck U U)<|Lq (oT U ‹_› U) rfl<|qa rfl<|Ld ?_;refine Ab (Er U ?_);refine Ag ?_;simp only[Xf,h5,g6,arity,Dj (l:=Co) (i:=n.toNat) (d:=([],0)) (by omega)];rfl
 ·simp only[Xf,h5,g6];rfl
 ·obtain⟨hz,C6⟩:=aA.1 g8;have hp:=A7 AN (l:=Co) (i:=n.toNat) (by omega);refine Lh U ‹_› (Dh U D3 BB U U (by first|assumption|omega) ‹_›)<|Lh U ‹_› (Az U Fw U (Qc U))<|Lh U ‹_› (Av U U Bv Bb)<|Lh U ‹_› (o2 Ck U U)<|Lq (oT U ‹_› U) rfl<|qa rfl<|Ld ?_;refine Ab (Er U ?_);refine Ag ?_;simp only[Xf,h7,g8,arity,Dj (l:=Co) (i:=n.toNat) (d:=([],0)) (by omega)];rfl
 ·simp only[Xf,h7,g8];rfl
 all_goals first|exact tO (by omega) ‹_›|exact tP (by omega) ‹_›|exact xC (by omega)
abbrev MakT:= {p:List CD×List CD×Int×Int×List Int//p.1.length≤4000∧p.2.1.length≤4000}
noncomputable def K12:=Wa K11 81 (fun p:MakT=>[.agg [Cq Cy 2 p.1.1,Cq Cy 2 p.1.2.1],tN p.1.2.2.1 p.1.2.2.2.1 p.1.2.2.2.2]) (fun p=> .bool (Xf p.1.1 p.1.2.1 p.1.2.2.1 p.1.2.2.2.1 p.1.2.2.2.2.length))
theorem hit_81 {cons Co:List CD} {op n:Int} {args:List Int} (h1:cons.length≤4000) (h2:Co.length≤4000):K12 81 [.agg [Cq Cy 2 cons,Cq Cy 2 Co],tN op n args]=some (.bool (Xf cons Co op n args.length)):=
 A3 (f:=81) (enc:=fun p:MakT=>[.agg [Cq Cy 2 p.1.1,Cq Cy 2 p.1.2.1],tN p.1.2.2.1 p.1.2.2.2.1 p.1.2.2.2.2]) (res:=fun p=> .bool (Xf p.1.1 p.1.2.1 p.1.2.2.1 p.1.2.2.2.1 p.1.2.2.2.2.length)) (by
  rintro⟨⟨a,b,c,d,e⟩,_⟩ ⟨⟨a',b',c',d',e'⟩,_⟩ h;simp only[List.cons.injEq,and_true,AV.agg.injEq,tN,AV.int.injEq,true_and]at h;obtain⟨⟨h1,h2⟩,rfl,rfl,h5⟩:=h;obtain rfl:=By Dy AN h1;obtain rfl:=By Dy AN h2;obtain rfl:=By Dx Bi h5;rfl) ⟨(cons,Co,op,n,args),h1,h2⟩
theorem all12 (h:VG Tryz.prog 10 [] (.bool true)):CK Tryz.prog K12:=Do AC (all11 h) (fun p:MakT=>tQ p.1.1 p.1.2.1 p.1.2.2.1 p.1.2.2.2.1 p.1.2.2.2.2 p.2.1 p.2.2) (fun _=>rfl) (fun _=>rfl)
theorem tR (r:Int) (l:List Zl):Cb (EK K12) 341 [.agg [.int .i64 r,Cq XB 2 l]] S0 (Cq CY 1 [r]):=by
 refine Aq (fn:=Tryz.f341) U U (by kernel_rfl) U U U rfl<|Es<|Lo (A4 1 U U U U) rfl<|qa rfl<|Ld<|Es<|Lq (of MF U) rfl<|Lo (l1 Bv Bb U) rfl<|Lo (Fk 2 U Ea Bb pD U U U U) rfl<|qa rfl<|Ld ?_;refine Ab (Er U ?_);rfl
noncomputable def K12a:=Wa K12 341 (fun p:Int×List Zl=>[.agg [.int .i64 p.1,Cq XB 2 p.2]]) (fun p=>Cq CY 1 [p.1])
theorem xD {r:Int} {l:List Zl}:K12a 341 [.agg [.int .i64 r,Cq XB 2 l]]=some (Cq CY 1 [r]):=
 A3 (f:=341) (enc:=fun p:Int×List Zl=>[.agg [.int .i64 p.1,Cq XB 2 p.2]]) (res:=fun p=>Cq CY 1 [p.1]) (by
  rintro⟨a,b⟩ ⟨c,d⟩ h;simp only[List.cons.injEq,and_true,AV.agg.injEq,AV.int.injEq,true_and]at h;obtain⟨rfl,_⟩:=h;rfl) (r,l)
theorem tS (r:Int):Cb (EK K12a) 344 [.agg [.int .i64 r]] S0 (Cq CY 1 [r]):=by
 refine Aq (fn:=Tryz.f344) U U (by kernel_rfl) U U U rfl<|Es<|Lo (A4 1 U U U U) rfl<|qa rfl<|Ld<|Es<|Lq (of MD U) rfl<|Lo (l1 Bv Bb U) rfl<|Lo (Fk 2 U Ea Bb pD U U U U) rfl<|qa rfl<|Ld ?_;refine Ab (Er U ?_);rfl
noncomputable def nd:=Wa K12a 344 (fun r:Int=>[.agg [.int .i64 r]]) (fun r=>Cq CY 1 [r])
theorem xE {r:Int}:nd 344 [.agg [.int .i64 r]]=some (Cq CY 1 [r]):=
 A3 (f:=344) (enc:=fun r:Int=>[.agg [.int .i64 r]]) (res:=fun r=>Cq CY 1 [r]) (by
  intro a b h;simp only[List.cons.injEq,and_true,AV.agg.injEq,AV.int.injEq,true_and]at h;rw[h]) r
theorem all13 (h:VG Tryz.prog 10 [] (.bool true)):CK Tryz.prog nd:=
 Do AC (Do AC (all12 h) (fun p:Int×List Zl=>tR p.1 p.2) (fun _=>rfl) (fun _=>rfl)) (fun r=>tS r) (fun _=>rfl) (fun _=>rfl)
theorem O1 {α:Type} (l:List α) (d:α) (f:α→Bool):l.all f=(List.range l.length).all fun i=>f (l.getD i d):=by
 rw[Bool.eq_iff_iff,List.all_eq_true,List.all_eq_true];constructor
 ·intro h i hi;rw[Dj (List.mem_range.1 hi)];exact h _ (Ql _)
 ·intro h x hx;obtain⟨i,hi,rfl⟩:=List.mem_iff_getElem.1 hx;have:=h i (List.mem_range.2 hi);rwa[Dj hi]at this
theorem bad_to (r:Int) (s:St):Cb (EK nd) 78 [.int .i64 r] s (.bool (!YK r 0 59)):=by
 refine Cb.flat (fn:=Tryz.f78) U (by kernel_rfl) U U U U (fun _ _=>rfl) (fun _=>rfl)<|Es<|qa rfl<|Ld<|Es<|qm U ?_;refine Lo (Ad U U (by kernel_rfl) U (Cb.Cs (Jb))) rfl<|Lq (on U) rfl<|qa rfl<|Ld ?_;exact Ab ⟨.inl U,rfl,rfl,_,An U U,rfl⟩
def tgt (c:Cm) (k:Nat) (n:Int):Bool:=YK n ((k+1:Nat):Int) ((c.ins.length-1:Nat):Int)
theorem J3 {c:Cm} {k:Nat} (hk:k<c.ins.length) (hn:c.ins.length≤4000) {s:St} {b0 b1:Nat} (h0:s.heap.get b0=some (.cells (CG c) 28 false)) (h1:s.heap.get b1=some (.cells [.int .i64 (k:Nat)] 3 false)) (n:Int):
 Cb (EK nd) 79 [.int .i64 n,.ptr b1 0,.ptr b0 0] s (.bool (tgt c k n)):=by
 refine Cb.flat (fn:=Tryz.f79) U (by kernel_rfl) U U U U (fun _ _=>rfl) (fun _=>rfl) ?_;have h0':s.enter.heap.get b0=some (.cells (CG c) 28 false):=h0;have h1':s.enter.heap.get b1=some (.cells [.int .i64 (k:Nat)] 3 false):=h1;refine Es<|qa rfl<|Ld<|Es<|qm rfl<|Lo (A2 U U (Aj Bv Bb ‹_› U)) U ?_;refine Lq (Ap (b:=1) U Ck U U (by omega)) U ?_;refine Lq (of Bf U) rfl<|Lo (A2 U U (Aj Dg Dd ‹_› U)) rfl<|Lq (ol FR U) rfl<|Lq (A8 (b:=1) U Ck U U (by omega)) U ?_;refine Lo (Ad U U (by kernel_rfl) U (Cb.Cs (Jb))) rfl<|qa rfl<|Ld ?_;exact Ab ⟨.inl U,rfl,rfl,_,An U U,rfl⟩
theorem OO {c:Cm} {k:Nat} (hk:k<c.ins.length) (hn:c.ins.length≤4000) {s:St} {b0 b1 b2:Nat} (h0:s.heap.get b0=some (.cells (CG c) 28 false)) (h1:s.heap.get b1=some (.cells [.int .i64 (k:Nat)] 3 false))
 (h2:s.heap.get b2=some (.cells [.func (.func 79) [] [.ptr b1 0,.ptr b0 0]] 146 false)) (n:Int):
 Cb (EK nd) 80 [.int .i64 n,.ptr b2 0] s (.bool (!tgt c k n)):=by
 refine Cb.flat (fn:=Tryz.f80) U (by kernel_rfl) U U U U (fun _ _=>rfl) (fun _=>rfl) ?_;have ze:s.enter.heap.get b2=some (.cells [.func (.func 79) [] [.ptr b1 0,.ptr b0 0]] 146 false):=h2;have ht:=J3 hk hn (s:=s.enter) h0 h1 n;refine Es<|qa rfl<|Ld<|Es<|Lo (A2 U U (Aj O5 Gw ‹_› U)) rfl<|qm rfl<|Lo (Gn U U U (by kernel_rfl) U ht) rfl<|Lq (on U) rfl<|qa rfl<|Ld ?_;exact Ab ⟨.inl U,rfl,rfl,_,An U U,rfl⟩
theorem T5 (l:List Int):(l.any fun r=> !YK r 0 59)= !bg l:=by
 unfold bg;rw[←List.not_all_eq_any_not]
 congr 1
 exact O1 l 0 (fun r=>YK r 0 59)
theorem Tw {l:List Int} {s:St} (hn:l.length≤4000):Cb (EK nd) 70 [Cq CY 1 l,.func (.func 78) [] []] s (.bool (!bg l)):=by
 rw[←T5];exact K3 U U (by kernel_rfl) (fun s' _ _ r=>bad_to r s') l hn
def j2 (c:Cm) (k:Nat):ShT→Bool
 | .looks r l=>YK r 0 59&&fF c.cons.length c.ins.length k l
 | .goes l=>XP c.ins.length k l
 | .mL=>true
 | .mM=>true
 | .makes o n l=>bg l&&Xf c.cons c.Co o n l.length
 | .enters r=>YK r 0 59
 | .no=>false
theorem tg_eq (x:VI):(!mZ x)=decide ((x.to.length:Int)=0):=by unfold mZ;rw[Pr,Bool.not_not]
theorem cs_eq (x:VI):(!lQ x)=decide ((x.alts.length:Int)=0):=by unfold lQ;rw[Pr,Bool.not_not]
theorem rg_eq (x:VI):(!mK x)=decide (x.a=0):=by unfold mK;rw[Bool.not_not]
theorem nd_eq (x:VI):(!eF x)=Xs x:=by unfold eF;rw[Bool.not_not]
theorem Ej (c:Cm) (k:Nat) (x:VI):Yh c k x=j2 c k (VY x):=by
 unfold VY;unfold oO nM na nN pZ qb;simp only[tg_eq,cs_eq,rg_eq,nd_eq];by_cases h1:x.op=1
 ·rw[tG h1];simp only[h1];cases Xs x<;>cases decide ((x.to.length:Int)=0)<;>rfl
 by_cases h2:x.op=2
 ·rw[tH h2];simp only[h2];cases Xs x<;>cases decide ((x.alts.length:Int)=0)<;>cases decide (x.a=0)<;>rfl
 by_cases h3:x.op=3
 ·rw[U3 (.inl h3)];simp only[h3];cases Xs x<;>cases decide ((x.alts.length:Int)=0)<;>cases decide (x.a=0)<;>cases decide ((x.to.length:Int)=0)<;>rfl
 by_cases h4:x.op=4
 ·rw[U3 (.inr h4)];simp only[h4];cases Xs x<;>cases decide ((x.alts.length:Int)=0)<;>cases decide (x.a=0)<;>cases decide ((x.to.length:Int)=0)<;>rfl
 by_cases h5:x.op=5
 ·rw[tI h5];simp only[h5];cases decide ((x.alts.length:Int)=0)<;>cases decide (x.a=0)<;>cases decide ((x.to.length:Int)=0)<;>rfl
 by_cases h6:x.op=6
 ·rw[tJ h6];simp only[h6];cases Xs x<;>cases decide ((x.alts.length:Int)=0)<;>cases decide ((x.to.length:Int)=0)<;>first|rfl|(cases YK x.a 0 59<;>rfl)
 rw[tK (by omega)];simp only[h1,h2,h3,h4,h5,h6,decide_false,Bool.false_and];rfl
theorem HP (r:Int):bg [r]=YK r 0 59:=by
 show((List.range 1).all _)=_;simp[List.range_succ]
theorem Pf {s:St}:Cb (EK nd) 70 [.Ca,.func (.func 78) [] []] s (.bool false):=Ow rfl rfl
theorem Pb {x:VI} {r:Int} {l:List Zl} (h:VY x= .looks r l):l=x.alts:=by
 unfold VY at h;repeat (split at h;first|(cases h;rfl)|cases h|skip)
 all_goals cases h
theorem RI {x:VI} {l:List Int} (h:VY x= .goes l):l=x.to:=by
 unfold VY at h;repeat (split at h;first|(cases h;rfl)|cases h|skip)
 all_goals cases h
theorem Pa {x:VI} {o n:Int} {l:List Int} (h:VY x= .makes o n l):l=x.args:=by
 unfold VY at h;repeat (split at h;first|(cases h;rfl)|cases h|skip)
 all_goals cases h
theorem Py (c:Cm) (k:Nat) (hf:Fits c) (hk:k<c.ins.length) (r:Int) (l:List Zl) (hs:VY c.ins[k]= .looks r l):Cb (EK nd) 38 [.agg (CG c),.int .i64 (k:Nat)] S0 (.bool (Yh c k c.ins[k])):=by
 refine Aq (fn:=Tryz.f38) U U (by kernel_rfl) U U U U ?_;have gM:=A7 Db hk;have ha:=hf.args _ (Ql hk);have rT:=hf.cons;have mW:=hf.Co;have vt:=hf.ins;have my:=hf.to _ (Ql hk);have jj:=hf.alts _ (Ql hk);generalize hx:c.ins[k]=x at*;refine Es<|Lo (A4 1 U U U U) rfl<|Lo (A4 2 U U U U) rfl<|qa rfl<|Ld<|Es<|Lq (of Bf U) rfl<|Lo (l1 Dg Dd U) rfl<|Lo (l1 Bv Bb U) rfl<|Lq (Ae U FR BV U U ‹_›) rfl<|Lq (AP U U Gr BV (Qc U)) U ?_;refine Lo (Ad U U (by kernel_rfl) U (Cb.Cs (Ja))) rfl<|qa rfl<|Ld<|Aa ?_;rw[hs];obtain rfl:=Pb hs;have bX:=Ej c k x;rw[hs]at bX;generalize x.alts=l at*;focus
  refine Es<|qm rfl<|Lq (EF (neg:=false) U Ih U U U) rfl<|qm rfl<|Lh U U (om U) ?_;refine Lg U U (LU U U U U EW (by kernel_rfl) U (Cb.Cs (xD))) ?_;refine Lg U U (Ad U U (by kernel_rfl) U (Tw (by first|assumption|omega|(simp only[LL];omega)))) ?_;refine Lq (oF U U U) rfl<|Ld ?_;refine Ec U (fun g1=>?_) (fun g1=>?_);have h1:=FB g1;refine Es<|qa rfl<|Ld ?_;refine Ab (Er U ?_);refine Ag ?_;rotate_left;have h1:=FC g1;refine Ac<|Es<|Lq (Bh U U U) rfl<|Lo (Bc 3 U Na U) rfl<|Ax (AK U Gw U U U U U U) U rfl<|Ld<|Aa<|Es<|qm rfl<|Ld<|Ch.block<|Es<|Lq (A9 U EY Hk U U) U ?_;iterate 2 refine Lq (oe U) U ?_
  refine Ld<|Ah U rfl<|Es<|Lo (Bc 4 U Hk U) rfl<|Ax (AK U Q1 U U U U U U) U rfl<|Ld<|Es<|Lq (of Ks U) rfl<|Lo (l1 E7 Ee U) rfl<|Lq (ol Hm U) rfl<|qm rfl<|Ld<|Ch.block ?_;rotate_left
 ·rw[bX,j2,←HP,h1];rfl
 refine Aw (fun y:Nat×St=>([(33,.int .i64 (y.1:Nat)),(32,.int .i64 (l.length:Nat)),(31,Cq XB 2 l),(7,.ptr 3 0),(6,.ptr 2 0),(4,.bool false),(2,.ptr 0 0)],y.2)) (fun y=>l.length-y.1)
  (fun y=>y.1≤l.length∧(List.range y.1).all (cU c.cons.length c.ins.length k l)=true∧(y.2.heap.get 0=some (.cells (CG c) 28 false)∧y.2.heap.get 1=some (.cells [.int .i64 (k:Nat)] 3 false)∧y.2.heap.get 2=some (.cells [.func (.func 79) [] [.ptr 1 0,.ptr 0 0]] 146 false)∧y.2.heap.get 3=some (.cells [.int .i64 r,Cq XB 2 l] 114 false))∧4≤y.2.next∧y.2.bound=0∧y.2.log=[])
  (0,WZ 4 0 [] [(3,some (.cells [.int .i64 r,Cq XB 2 l] 114 false)),(3,some (.cells [.int .i64 0,.Ca] 114 false)),(2,some (.cells [.func (.func 79) [] [.ptr 1 0,.ptr 0 0]] 146 false)),(2,some (.cells [.Cu] 146 false)),(1,some (.cells [.int .i64 (k:Nat)] 3 false)),(0,some (.cells (CG c) 28 false))]) ⟨Qo _,rfl,⟨DD 0,DD 1,DD 2,DD 3⟩,Qj _,rfl,rfl⟩ rfl (Ao (by repeat' constructor)) ?_
 rintro⟨i,st⟩ ⟨hi,Ym,⟨gi,eE,gI,zj⟩,hn,hb,YR⟩;dsimp only at hi Ym gi eE gI zj hn hb YR⊢;by_cases h:i<l.length
 ·have hp:=A7 Eo h;have ek:=A7 Eo (l:=l) (i:=i-1) (by omega);have ZZ:cU c.cons.length c.ins.length k l i=((YK l[i].1 0 (c.cons.length-1)&& !(decide (0<(i:Int))&&decide (l[i].1≤l[i-1].1)))&&tgt c k l[i].2):=by
   unfold cU;rw[Dj h,Dj (by omega)];rfl
  have XG:cU c.cons.length c.ins.length k l i=false→false=fF c.cons.length c.ins.length k l:=fun hf=>(Mj h hf).symm;obtain⟨dy,ia,hc3,xj,vu,hc6,hc7⟩:=Hv (st:=st) (z:=[.int .i64 0,.int .i64 0]) (cs:=XB l[i]) (T:=60);have Wm:=(hc6 (by omega)).trans YR;have dz:=vu.trans hb;have xF:=(xj 0 (by omega)).trans gi;have xG:=(xj 1 (by omega)).trans eE;have hg2':=(xj 2 (by omega)).trans gI;have hg3':=(xj 3 (by omega)).trans zj;have mJ:cU c.cons.length c.ins.length k l i=false→false=Yh c k x:=fun hf=>by rw[bX,j2,←XG hf,Bool.and_false]
  focus
   refine Es<|Lq (o2 Ck U U) rfl<|Ld<|Aa ?_;refine Ec U (fun g2=>?_) (fun g2=>?_);have h2:=dT g2;refine Ac<|Aa<|Ch.block<|Es<|qm rfl<|Lq (Ae U Hm Fo U U ‹_›) rfl<|Lq (AP U U SC Fo (Qc U)) rfl<|Lo (Ws.alloc U pG) rfl<|qa rfl<|Ax (Ws.store U Fo U U (AB ‹_› U U U)) U rfl<|Ld<|As (by kernel_rfl)<|Nq (of Hr U) rfl<|AO U U (Aj Bv Bb ‹_› U) U (.inl U) U rfl<|Nq (of BI U) rfl<|Nq (of BA U) U ?_;refine AO U U (Aj Bn Bk ‹_› U) U (.inl U) U rfl<|Nq (ol D3 U) rfl<|Nq (Wj.sub U Ck U U (by omega)) U ?_;refine Bp (AI U U (by kernel_rfl) U (Jb)) (.inl U) U rfl<|Nq (on U) rfl<|Nq (om U) U ?_;refine E5 U U U U (fun g3=>?_) (fun g3=>?_);have h3:=FB g3;iterate 3 refine Nk U ‹_› ?_
   iterate 10 refine Nt U ?_
   refine Nk U ‹_›<|Nq (oT U ‹_› U) rfl<|Nq (om U) U ?_;iterate 5 refine Nk U U ?_
   refine Nq (oT U U U) rfl<|Au<|Ah U rfl<|Es<|qa rfl<|Ld ?_;refine Ab ⟨.inl U,rfl,‹_›,‹_›,_,_,_,(An U U),rfl,rfl,?_⟩;refine Ag ?_;rotate_left;have h3:=FC g3;refine Ng U ‹_› (om U)<|Ng U ‹_› (o2 Ck U U)<|Ng U ‹_› (om U) ?_;refine E5 U U U U (fun g4=>?_) (fun g4=>?_);have h4:=dT g4;refine Ng U ‹_› (of Hr U)<|AO U U (Aj Bv Bb ‹_› U) U (Bl U U U U ‹_›) U rfl<|Ng U ‹_› (of Ks U)<|AO U U (Aj E7 Ee ‹_› U) U (Bl U U U U ‹_›) U rfl<|Ng U ‹_› (om U)<|Ng U ‹_› (A8 (b:=1) U Ck U U (by omega))<|Ng U ‹_› (Ae U Hm Fo U U ‹_›)<|Ng U ‹_› (Az U Hr U (Qc U))<|Ng U ‹_› (Av U U Bv Bb)<|Ng U ‹_› (o2 Ck U U)<|Ng U ‹_› (oT U ‹_› U)<|Nq (oF U ‹_› U) rfl<|Nq (om U) U ?_;refine E5 U U U U (fun g5=>?_) (fun g5=>?_);have h5:=dT g5;iterate 5 refine Nk U ‹_› ?_
   refine Nq (oT U ‹_› U) rfl<|Au<|Ah U rfl<|Es<|qa rfl<|Ld ?_;refine Ab ⟨.inl U,rfl,‹_›,‹_›,_,_,_,(An U U),rfl,rfl,?_⟩;refine Ag ?_;rotate_left;have h5:=dF g5;refine AO U U (Aj O5 Gw ‹_› U) U (Bl U U U U ‹_›) U rfl<|Ng U ‹_› (of Je U)<|AO U U (Aj Bv Bb ‹_› U) U (Bl U U U U ‹_›) U U ?_;rotate_left;have h4:=dF g4;iterate 10 refine Nk U ‹_› ?_
   refine Ng U ‹_› (oF U ‹_› U)<|Nq (oF U ‹_› U) rfl<|Nq (om U) rfl<|AO U U (Aj O5 Gw ‹_› U) U (Bl U U U U U) U rfl<|Ng U U (of Je U)<|AO U U (Aj Bv Bb ‹_› U) U (Bl U U U U U) U U ?_;rotate_left;have h2:=dF g2;exact absurd h2 (by omega)
  ·exact mJ (by rw[ZZ,h3];rfl)
  ·exact mJ (by rw[ZZ,h3,g4,g5];rfl)
  ·refine KO (by kernel_rfl) (fun _ _=>rfl) (Gn U U U (by kernel_rfl) U (J3 (s:=St.sub _ _) hk vt xF xG l[i].2)) U (Bl U U U U g5) U U ?_;focus
    refine Ng U ‹_› (on U)<|Nq (oF U ‹_› U) rfl<|Au ?_;refine Ec U (fun g6=>?_) (fun g6=>?_);have h6:=FB g6;refine Es<|qa rfl<|Ld ?_;refine Ab ⟨.inl U,rfl,‹_›,‹_›,_,_,_,(An U U),rfl,rfl,?_⟩;refine Ag ?_;rotate_left;have h6:=FC g6;refine Ac<|Ai ?_;refine Lq (Ap (b:=1) U Ck U U (by omega)) U ?_;refine qm rfl<|Ld ?_;rotate_left
   ·exact mJ (by rw[ZZ,h6,Bool.and_false])
   ·exact⟨(i+1,_),⟨h,EN Ym (by rw[ZZ,h3,g4,g5,h6];rfl),⟨xF,xG,hg2',hg3'⟩,Nat.le_succ_of_le hn,dz,Wm⟩,by show l.length-(i+1)<l.length-i;omega,rfl,rfl,Ao (by repeat' constructor)⟩
  ·refine KO (by kernel_rfl) (fun _ _=>rfl) (Gn U U U (by kernel_rfl) U (J3 (s:=St.sub _ _) hk vt xF xG l[i].2)) U (Bl U U U U U) U U ?_;focus
    refine Ng U U (on U)<|Nq (oF U U U) rfl<|Au ?_;refine Ec U (fun g5=>?_) (fun g5=>?_);have h5:=FB g5;refine Es<|qa rfl<|Ld ?_;refine Ab ⟨.inl U,rfl,‹_›,‹_›,_,_,_,(An U U),rfl,rfl,?_⟩;refine Ag ?_;rotate_left;have h5:=FC g5;refine Ac<|Ai ?_;refine Lq (Ap (b:=1) U Ck U U (by omega)) U ?_;refine qm rfl<|Ld ?_;rotate_left
   ·exact mJ (by rw[ZZ,h5,Bool.and_false])
   ·exact⟨(i+1,_),⟨h,EN Ym (by rw[ZZ,h3,g4,h5];rfl),⟨xF,xG,hg2',hg3'⟩,Nat.le_succ_of_le hn,dz,Wm⟩,by show l.length-(i+1)<l.length-i;omega,rfl,rfl,Ao (by repeat' constructor)⟩
 ·focus
   refine Es<|Lq (o2 Ck U U) rfl<|Ld<|Aa ?_;refine Ec U (fun g2=>?_) (fun g2=>?_);have h2:=dT g2;exact absurd h2 (by omega);have h2:=dF g2;refine A1<|AS rfl<|Es<|qa rfl<|Ld ?_;refine Ab ⟨.inl U,rfl,‹_›,‹_›,_,_,_,(An U U),rfl,rfl,?_⟩;refine Ag ?_;rotate_left
  obtain rfl:i=l.length:=by omega
  rw[bX,j2,←HP,h1];exact Ym.symm
theorem Sv (c:Cm) (k:Nat) (hf:Fits c) (hk:k<c.ins.length) (l:List Int) (hs:VY c.ins[k]= .goes l):Cb (EK nd) 38 [.agg (CG c),.int .i64 (k:Nat)] S0 (.bool (Yh c k c.ins[k])):=by
 refine Aq (fn:=Tryz.f38) U U (by kernel_rfl) U U U U ?_;have gM:=A7 Db hk;have ha:=hf.args _ (Ql hk);have rT:=hf.cons;have mW:=hf.Co;have vt:=hf.ins;have my:=hf.to _ (Ql hk);have jj:=hf.alts _ (Ql hk);generalize hx:c.ins[k]=x at*;refine Es<|Lo (A4 1 U U U U) rfl<|Lo (A4 2 U U U U) rfl<|qa rfl<|Ld<|Es<|Lq (of Bf U) rfl<|Lo (l1 Dg Dd U) rfl<|Lo (l1 Bv Bb U) rfl<|Lq (Ae U FR BV U U ‹_›) rfl<|Lq (AP U U Gr BV (Qc U)) U ?_;refine Lo (Ad U U (by kernel_rfl) U (Cb.Cs (Ja))) rfl<|qa rfl<|Ld<|Aa ?_;rw[hs];obtain rfl:=RI hs;have bX:=Ej c k x;rw[hs]at bX;generalize x.to=l at*;focus
  refine Es<|qm rfl<|Lq (EF (neg:=false) U Ih U U U) rfl<|qm rfl<|Lh U U (om U)<|H9 U U U U rfl<|Gk (fn:=Tryz.f342) (by kernel_rfl) EV (by kernel_rfl) U U U U U U U U U U U U rfl<|Es<|Lo (A4 3 U U U U) rfl<|qa rfl<|Ld<|Es<|qa rfl<|Ld ?_;refine Ab (Dv (Yc.same U (An U U) U U U U ?_));refine Lg U U (Ad U U (by kernel_rfl) U (Pf))<|Lq (oF U U U) rfl<|Ld<|Af U rfl<|Ac<|Es<|Lq (Bh U U U) rfl<|Lo (Bc 3 U Na U) rfl<|Ax (AK U Gw U U U U U U) U rfl<|Ld<|Aa<|Es<|qm rfl<|Ld<|Ch.block<|Es ?_;refine Lq (A9 U EY Hk U U) U ?_;iterate 2 refine Lq (oe U) U ?_
  refine Ld<|Af U rfl<|Es<|Lq (A9 U FE HC U U) U ?_;iterate 2 refine Lq (oe U) U ?_
  refine Ld<|Ah U rfl<|Es<|Lo (Bc 4 U HC U) rfl<|Ax (AK U Q0 U U U U U U) U rfl<|Ld<|Es<|Lq (of Kr U) rfl<|Lo (l1 BJ B9 U) rfl<|Lq (ol Ea U) rfl<|Lq (o2 Ck U U) rfl<|qm U ?_;refine Lb U (fun g1=>?_) (fun g1=>?_);have h1:=dT g1;refine Lh U ‹_› (of Kr U)<|Lg U ‹_› (l1 BJ B9 U)<|Lh U ‹_› (Bh U U U) ?_;rotate_left;have h1:=dF g1;iterate 5 refine Lk U ‹_› ?_
  refine Lq (oF U ‹_› U) rfl<|qa rfl<|Ld ?_;refine Ab (Er U ?_);refine Ag ?_;rotate_left
 ·refine H9 U U U U g1 ?_;refine Lo (Ad U U (by kernel_rfl) U (K3 U U (p:=fun r=> !tgt c k r) (by kernel_rfl) (fun s' h1 h2 r=>OO hk vt (by rw[h1];exact DD 0) (by rw[h1];exact DD 1) (by rw[h1];exact DD 2) r) l my)) U ?_;refine Lh U ‹_› (on U)<|Lq (oT U ‹_› U) rfl<|qa rfl<|Ld ?_;refine Ab (Er U ?_);refine Ag ?_;rw[bX,j2,XP,g1,Bool.and_true,←List.not_all_eq_any_not,Bool.not_not];exact O1 l 0 (tgt c k)
 ·rw[bX,j2,XP,g1,Bool.and_false]
theorem P0 (c:Cm) (k:Nat) (hf:Fits c) (hk:k<c.ins.length) (hs:VY c.ins[k]= .mL):Cb (EK nd) 38 [.agg (CG c),.int .i64 (k:Nat)] S0 (.bool (Yh c k c.ins[k])):=by
 refine Aq (fn:=Tryz.f38) U U (by kernel_rfl) U U U U ?_;have gM:=A7 Db hk;have ha:=hf.args _ (Ql hk);have rT:=hf.cons;have mW:=hf.Co;have vt:=hf.ins;have my:=hf.to _ (Ql hk);have jj:=hf.alts _ (Ql hk);generalize hx:c.ins[k]=x at*;refine Es<|Lo (A4 1 U U U U) rfl<|Lo (A4 2 U U U U) rfl<|qa rfl<|Ld<|Es<|Lq (of Bf U) rfl<|Lo (l1 Dg Dd U) rfl<|Lo (l1 Bv Bb U) rfl<|Lq (Ae U FR BV U U ‹_›) rfl<|Lq (AP U U Gr BV (Qc U)) U ?_;refine Lo (Ad U U (by kernel_rfl) U (Cb.Cs (Ja))) rfl<|qa rfl<|Ld<|Aa ?_;rw[hs];have bX:=Ej c k x;rw[hs]at bX;refine Es<|qm rfl<|Lq (EF (neg:=false) U Ih U U U) rfl<|qm rfl<|Lh U U (om U)<|H9 U U U U rfl<|Gk (fn:=Tryz.f345) (by kernel_rfl) ES (by kernel_rfl) U U U U U U U U U U U U rfl<|Es<|Lo (A4 3 U U U U) rfl<|qa rfl<|Ld<|Es<|qa rfl<|Ld ?_;refine Ab (Dv (Yc.same U (An U U) U U U U ?_))
 refine Lg U U (Ad U U (by kernel_rfl) U (Pf))<|Lq (oF U U U) rfl<|Ld<|Af U rfl<|Ac<|Es<|Lq (Bh U U U) rfl<|Lo (Bc 3 U Na U) rfl<|Ax (AK U Gw U U U U U U) U rfl<|Ld<|Aa<|Es<|qm rfl<|Ld<|Ch.block<|Es ?_;refine Lq (A9 U EY Hk U U) U ?_;iterate 2 refine Lq (oe U) U ?_
 refine Ld<|Af U rfl<|Es<|Lq (A9 U FE HC U U) U ?_;iterate 2 refine Lq (oe U) U ?_
 refine Ld<|Af U rfl<|Es<|Lq (A9 U G8 Jg U U) U ?_;iterate 2 refine Lq (oe U) U ?_
 refine Ld<|Af U rfl<|Ac<|Es<|qa rfl<|Ld ?_;refine Ab (Er U ?_);refine Ag ?_;exact bX.symm
theorem Pz (c:Cm) (k:Nat) (hf:Fits c) (hk:k<c.ins.length) (hs:VY c.ins[k]= .mM):Cb (EK nd) 38 [.agg (CG c),.int .i64 (k:Nat)] S0 (.bool (Yh c k c.ins[k])):=by
 refine Aq (fn:=Tryz.f38) U U (by kernel_rfl) U U U U ?_;have gM:=A7 Db hk;have ha:=hf.args _ (Ql hk);have rT:=hf.cons;have mW:=hf.Co;have vt:=hf.ins;have my:=hf.to _ (Ql hk);have jj:=hf.alts _ (Ql hk);generalize hx:c.ins[k]=x at*;refine Es<|Lo (A4 1 U U U U) rfl<|Lo (A4 2 U U U U) rfl<|qa rfl<|Ld<|Es<|Lq (of Bf U) rfl<|Lo (l1 Dg Dd U) rfl<|Lo (l1 Bv Bb U) rfl<|Lq (Ae U FR BV U U ‹_›) rfl<|Lq (AP U U Gr BV (Qc U)) U ?_;refine Lo (Ad U U (by kernel_rfl) U (Cb.Cs (Ja))) rfl<|qa rfl<|Ld<|Aa ?_;rw[hs];have bX:=Ej c k x;rw[hs]at bX;refine Es<|qm rfl<|Lq (EF (neg:=false) U Ih U U U) rfl<|qm rfl<|Lh U U (om U)<|H9 U U U U rfl<|Gk (fn:=Tryz.f346) (by kernel_rfl) ER (by kernel_rfl) U U U U U U U U U U U U rfl<|Es<|Lo (A4 3 U U U U) rfl<|qa rfl<|Ld<|Es<|qa rfl<|Ld ?_;refine Ab (Dv (Yc.same U (An U U) U U U U ?_))
 refine Lg U U (Ad U U (by kernel_rfl) U (Pf))<|Lq (oF U U U) rfl<|Ld<|Af U rfl<|Ac<|Es<|Lq (Bh U U U) rfl<|Lo (Bc 3 U Na U) rfl<|Ax (AK U Gw U U U U U U) U rfl<|Ld<|Aa<|Es<|qm rfl<|Ld<|Ch.block<|Es ?_;refine Lq (A9 U EY Hk U U) U ?_;iterate 2 refine Lq (oe U) U ?_
 refine Ld<|Af U rfl<|Es<|Lq (A9 U FE HC U U) U ?_;iterate 2 refine Lq (oe U) U ?_
 refine Ld<|Af U rfl<|Es<|Lq (A9 U G8 Jg U U) U ?_;iterate 2 refine Lq (oe U) U ?_
 refine Ld<|Af U rfl<|Ac<|Es<|qa rfl<|Ld ?_;refine Ab (Er U ?_);refine Ag ?_;exact bX.symm
theorem Px (c:Cm) (k:Nat) (hf:Fits c) (hk:k<c.ins.length) (o n:Int) (l:List Int) (hs:VY c.ins[k]= .makes o n l):Cb (EK nd) 38 [.agg (CG c),.int .i64 (k:Nat)] S0 (.bool (Yh c k c.ins[k])):=by
 refine Aq (fn:=Tryz.f38) U U (by kernel_rfl) U U U U ?_;have gM:=A7 Db hk;have ha:=hf.args _ (Ql hk);have rT:=hf.cons;have mW:=hf.Co;have vt:=hf.ins;have my:=hf.to _ (Ql hk);have jj:=hf.alts _ (Ql hk);generalize hx:c.ins[k]=x at*;refine Es<|Lo (A4 1 U U U U) rfl<|Lo (A4 2 U U U U) rfl<|qa rfl<|Ld<|Es<|Lq (of Bf U) rfl<|Lo (l1 Dg Dd U) rfl<|Lo (l1 Bv Bb U) rfl<|Lq (Ae U FR BV U U ‹_›) rfl<|Lq (AP U U Gr BV (Qc U)) U ?_;refine Lo (Ad U U (by kernel_rfl) U (Cb.Cs (Ja))) rfl<|qa rfl<|Ld<|Aa ?_;rw[hs];obtain rfl:=Pa hs;have bX:=Ej c k x;rw[hs]at bX;generalize x.args=l at*;focus
  refine Es<|qm rfl<|Lq (EF (neg:=false) U Ih U U U) rfl<|qm rfl<|Lh U U (om U)<|H9 U U U U rfl<|Gk (fn:=Tryz.f343) (by kernel_rfl) EU (by kernel_rfl) U U U U U U U U U U U U rfl<|Es<|Lo (A4 3 U U U U) rfl<|qa rfl<|Ld<|Es<|Lq (of Kq U) rfl<|Lo (l1 BJ B9 U) rfl<|qa rfl<|Ld ?_;refine Ab (Dv (Yc.same U (An U U) U U U U ?_));refine Lg U U (Ad U U (by kernel_rfl) U (Tw (by omega))) ?_;refine Lq (oF U U U) rfl<|Ld ?_;refine Ec U (fun g1=>?_) (fun g1=>?_);have h1:=FB g1;refine Es<|qa rfl<|Ld ?_;refine Ab (Er U ?_);refine Ag ?_;rotate_left;have h1:=FC g1;refine Ac<|Es<|Lq (Bh U U U) rfl<|Lo (Bc 3 U Na U) rfl<|Ax (AK U Gw U U U U U U) U rfl<|Ld<|Aa<|Es<|qm rfl<|Ld<|Ch.block<|Es<|Lq (A9 U EY Hk U U) U ?_;iterate 2 refine Lq (oe U) U ?_
  refine Ld<|Af U rfl<|Es<|Lq (A9 U FE HC U U) U ?_;iterate 2 refine Lq (oe U) U ?_
  refine Ld<|Af U rfl<|Es<|Lq (A9 U G8 Jg U U) U ?_;iterate 2 refine Lq (oe U) U ?_
  refine Ld<|Ah U rfl<|Es<|Lo (Bc 4 U Jg U) rfl<|Ax (AK U Nf U U U U U U) U rfl<|Ld<|Es<|Lq (of BI U) rfl<|Lo (AA U MU Ma U U (Qc U)) rfl<|Lo (AA U Vx Nf U U (Qc U)) U ?_;refine Lo (Ad U U (by kernel_rfl) U (Cb.Cs (hit_81 (by omega) (by omega)))) U ?_;refine qa rfl<|Ld ?_;refine Ab (Er U ?_);refine Ag ?_;rotate_left
 ·rw[bX,j2,h1];rfl
 ·rw[bX,j2,h1];rfl
theorem NY (c:Cm) (k:Nat) (hf:Fits c) (hk:k<c.ins.length) (r:Int) (hs:VY c.ins[k]= .enters r):Cb (EK nd) 38 [.agg (CG c),.int .i64 (k:Nat)] S0 (.bool (Yh c k c.ins[k])):=by
 refine Aq (fn:=Tryz.f38) U U (by kernel_rfl) U U U U ?_;have gM:=A7 Db hk;have ha:=hf.args _ (Ql hk);have rT:=hf.cons;have mW:=hf.Co;have vt:=hf.ins;have my:=hf.to _ (Ql hk);have jj:=hf.alts _ (Ql hk);generalize hx:c.ins[k]=x at*;refine Es<|Lo (A4 1 U U U U) rfl<|Lo (A4 2 U U U U) rfl<|qa rfl<|Ld<|Es<|Lq (of Bf U) rfl<|Lo (l1 Dg Dd U) rfl<|Lo (l1 Bv Bb U) rfl<|Lq (Ae U FR BV U U ‹_›) rfl<|Lq (AP U U Gr BV (Qc U)) U ?_;refine Lo (Ad U U (by kernel_rfl) U (Cb.Cs (Ja))) rfl<|qa rfl<|Ld<|Aa ?_;rw[hs];have bX:=Ej c k x;rw[hs]at bX;focus
  refine Es<|qm rfl<|Lq (EF (neg:=false) U Ih U U U) rfl<|qm rfl<|Lh U U (om U) ?_;refine Lg U U (LU U U U U ET (by kernel_rfl) U (Cb.Cs (xE))) ?_;refine Lg U U (Ad U U (by kernel_rfl) U (Tw (by first|assumption|omega|(simp only[LL];omega)))) ?_;refine Lq (oF U U U) rfl<|Ld ?_;refine Ec U (fun g1=>?_) (fun g1=>?_);have h1:=FB g1;refine Es<|qa rfl<|Ld ?_;refine Ab (Er U ?_);refine Ag ?_;rotate_left;have h1:=FC g1;refine Ac<|Es<|Lq (Bh U U U) rfl<|Lo (Bc 3 U Na U) rfl<|Ax (AK U Gw U U U U U U) U rfl<|Ld<|Aa<|Es<|qm rfl<|Ld<|Ch.block<|Es<|Lq (A9 U EY Hk U U) U ?_;iterate 2 refine Lq (oe U) U ?_
  refine Ld<|Af U rfl<|Es<|Lq (A9 U FE HC U U) U ?_;iterate 2 refine Lq (oe U) U ?_
  refine Ld<|Af U rfl<|Es<|Lq (A9 U G8 Jg U U) U ?_;iterate 2 refine Lq (oe U) U ?_
  refine Ld<|Af U rfl<|Ac<|Es<|qa rfl<|Ld ?_;refine Ab (Er U ?_);refine Ag ?_;rotate_left
 ·rw[bX,j2,←HP,h1]
 ·rw[bX,j2,←HP,h1]
theorem tT (c:Cm) (k:Nat) (hf:Fits c) (hk:k<c.ins.length) (hs:VY c.ins[k]= .no):Cb (EK nd) 38 [.agg (CG c),.int .i64 (k:Nat)] S0 (.bool (Yh c k c.ins[k])):=by
 refine Aq (fn:=Tryz.f38) U U (by kernel_rfl) U U U U ?_;have gM:=A7 Db hk;have ha:=hf.args _ (Ql hk);have rT:=hf.cons;have mW:=hf.Co;have vt:=hf.ins;have my:=hf.to _ (Ql hk);have jj:=hf.alts _ (Ql hk);generalize hx:c.ins[k]=x at*;refine Es<|Lo (A4 1 U U U U) rfl<|Lo (A4 2 U U U U) rfl<|qa rfl<|Ld<|Es<|Lq (of Bf U) rfl<|Lo (l1 Dg Dd U) rfl<|Lo (l1 Bv Bb U) rfl<|Lq (Ae U FR BV U U ‹_›) rfl<|Lq (AP U U Gr BV (Qc U)) U ?_;refine Lo (Ad U U (by kernel_rfl) U (Cb.Cs (Ja))) rfl<|qa rfl<|Ld<|Aa ?_;rw[hs];have bX:=Ej c k x;rw[hs]at bX;refine Es<|qm rfl<|Lq (EF (neg:=false) U Ih U U U) rfl<|qm U ?_;iterate 3 refine Lk U U ?_
 refine Lq (oT U U U) rfl<|Ld<|Ah U rfl<|Es<|qa rfl<|Ld ?_;refine Ab (Er U ?_);refine Ag ?_;exact bX.symm
theorem Lc (c:Cm) (k:Nat) (hf:Fits c) (hk:k<c.ins.length):Cb (EK nd) 38 [.agg (CG c),.int .i64 (k:Nat)] S0 (.bool (Yh c k c.ins[k])):=by
 rcases hs:VY c.ins[k]with⟨r,l⟩|l|_|_|⟨o,n,l⟩|r|_
 ·exact Py c k hf hk r l hs
 ·exact Sv c k hf hk l hs
 ·exact P0 c k hf hk hs
 ·exact Pz c k hf hk hs
 ·exact Px c k hf hk o n l hs
 ·exact NY c k hf hk r hs
 ·exact tT c k hf hk hs
noncomputable def K14:=Wa nd 38 (fun p:pI=>[.agg (CG p.1.1),.int .i64 (p.1.2:Nat)]) (fun p=> .bool (Yh p.1.1 p.1.2 p.x))
theorem hit_38 {c:Cm} {k:Nat} (h:Fits c) (hk:k<c.ins.length):K14 38 [.agg (CG c),.int .i64 (k:Nat)]=some (.bool (Yh c k c.ins[k])):=
 A3 (f:=38) (enc:=fun p:pI=>[.agg (CG p.1.1),.int .i64 (p.1.2:Nat)]) (res:=fun p=> .bool (Yh p.1.1 p.1.2 p.x)) (fun p q h=>by rw[Ir h]) ⟨(c,k),h,hk⟩
theorem all14 (h:VG Tryz.prog 10 [] (.bool true)):CK Tryz.prog K14:=Do AC (all13 h) (fun p:pI=>Lc p.1.1 p.1.2 p.2.1 p.2.2) (fun _=>rfl) (fun _=>rfl)
theorem err0 {b:Bool} (h:(if b=true then(0:Int)else 2)=0):b=true:=by cases b with
 |true=>rfl
 |false=>cases h
theorem err2 {b:Bool} (h:¬(if b=true then(0:Int)else 2)=0):b=false:=by cases b with
 |true=>exact absurd rfl h
 |false=>rfl
theorem tU (c:Cm) (hf:Fits c):Cb (EK K14) 13 [.agg (CG c)] S0 (.int .i64 (if CV c then 0 else 2)):=by
 refine Aq (fn:=Tryz.f13) U U (by kernel_rfl) U U U U ?_;have XG:Zz c=false→CV c=false:=fun h=>by unfold CV;rw[h];rfl
 have iL:=hf.iW;have kZ:=hf.iX;have aB:=hf.Cj;have aZ:=hf.ins;focus
  refine Es<|Lo (A4 1 U U U U) rfl<|qa rfl<|Ld<|Aa<|Es<|Lq (of BI U) rfl<|Lo (AA U MU Ma U U (Qc U)) U ?_;refine Lo (Ad U U (by kernel_rfl) U (Cb.Cs (hit_36 (by omega) (by omega)))) U ?_;refine Lq (o2 RA U U) rfl<|qm U ?_;refine Lb U (fun g1=>?_) (fun g1=>?_);have h1:=nT g1;iterate 4 refine Lk U ‹_› ?_
  refine Lq (oT U ‹_› U) rfl<|qm U ?_;iterate 8 refine Lk U U ?_
  refine Lq (oT U U U) rfl<|Ld<|Ah U rfl<|Es<|qa rfl<|Ld ?_;refine Ab (Er U ?_);rotate_left;have h1:=nF g1;refine Lh U ‹_› (of Bf U)<|Lg U ‹_› (l1 Dg Dd U)<|Lh U ‹_› (ol FR U)<|Lh U ‹_› (o2 Ck U U)<|Lq (oF U ‹_› U) rfl<|qm U ?_;refine Lb U (fun g2=>?_) (fun g2=>?_);have h2:=dT g2;iterate 8 refine Lk U ‹_› ?_
  refine Lq (oT U ‹_› U) rfl<|Ld<|Ah U rfl<|Es<|qa rfl<|Ld ?_;refine Ab (Er U ?_);rotate_left;have h2:=dF g2;refine Lh U ‹_› (of EA U)<|Lg U ‹_› (l1 BJ B9 U)<|Lh U ‹_› (ol Ea U)<|Lh U ‹_› (of BI U)<|Lh U ‹_› (of BF U)<|Lg U ‹_› (l1 Bn Bk U)<|Lh U ‹_› (ol D3 U)<|Lh U ‹_› (o2 Ck U U)<|Lq (oF U ‹_› U) rfl<|Ld ?_;refine Ec U (fun g3=>?_) (fun g3=>?_);have h3:=nT g3;refine Es<|qa rfl<|Ld ?_;refine Ab (Er U ?_);rotate_left;have h3:=nF g3;refine Ac<|Aa<|Es<|Lq (of EA U) rfl<|Lo (l1 BJ B9 U) rfl<|Lq (ol Ea U) rfl<|qm rfl<|Ld<|Ch.block ?_;rotate_left
 ·rw[XG (by unfold Zz;rw[err2 h1];rfl)];rfl
 ·rw[XG (by unfold Zz;rw[g2];simp)];rfl
 ·rw[XG (by unfold Zz;rw[decide_eq_false h3];simp)];rfl
 have hhd:Zz c=true:=by unfold Zz;rw[err0 h1,g2,decide_eq_true h3];rfl
 refine Aw (fun i:Nat=>([(29,.int .i64 (i:Nat)),(28,.int .i64 (c.Cj.length:Nat)),(27,Cq CY 1 c.Cj),(2,.int .i64 0),(1,.ptr 0 0)],WZ 1 0 [] [(0,some (.cells (CG c) 28 false))])) (fun i=>c.Cj.length-i) (fun i=>i≤c.Cj.length∧(List.range i).all (bI c)=true) 0 ⟨Qo _,rfl⟩ U (Ao (by repeat' constructor)) ?_;rintro i ⟨hi,hs⟩;dsimp only at hi hs⊢;by_cases h:i<c.Cj.length
 ·have hp:=A7 Bi h;have ZZ:bI c i=YK c.Cj[i] 0 (c.ins.length-1):=by unfold bI;rw[Dj h]
  focus
   refine Es<|Lq (o2 Ck U U) rfl<|Ld<|Aa ?_;refine Ec U (fun g4=>?_) (fun g4=>?_);have h4:=dT g4;refine Ac<|Aa<|Ch.block<|Es<|Lq (Ae U Ea Bb U U ‹_›) rfl<|Lq (Av U U Bv Bb) rfl<|qa rfl<|Ld<|Es<|qm rfl<|Lq (of Bf U) rfl<|Lo (l1 Dg Dd U) rfl<|Lq (ol FR U) rfl<|Lq (Wj.sub U Ck U U (by omega)) U ?_;refine Lo (Ad U U (by kernel_rfl) U (Cb.Cs (Jb))) rfl<|Lq (on U) rfl<|Ld ?_;refine Ec U (fun g5=>?_) (fun g5=>?_);have h5:=FB g5;refine Es<|qa rfl<|Ld ?_;refine Ab (Er U ?_);rotate_left;have h5:=FC g5;refine Ac<|Ai ?_;refine Lq (Ap (b:=1) U Ck U U (by omega)) U ?_;refine qm rfl<|Ld ?_;rotate_left;have h4:=dF g4;exact absurd h4 (by omega)
  ·have:CV c=false:=by unfold CV;rw[Mj h (ZZ.trans h5),Bool.false_and,Bool.and_false]
   rw[this];rfl
  ·exact⟨i+1,⟨h,EN hs (ZZ.trans h5)⟩,by show c.Cj.length-(i+1)<c.Cj.length-i;omega,rfl,rfl,Ao (by repeat' constructor)⟩
 ·focus
   refine Es<|Lq (o2 Ck U U) rfl<|Ld<|Aa ?_;refine Ec U (fun g4=>?_) (fun g4=>?_);have h4:=dT g4;exact absurd h4 (by omega);have h4:=dF g4;refine A1<|AS rfl<|Aa<|Es<|Lq (of Bf U) rfl<|Lo (l1 Dg Dd U) rfl<|Lq (ol FR U) rfl<|qm rfl<|Ld<|Ch.block ?_;rotate_left
  obtain rfl:i=c.Cj.length:=by omega
  refine Aw (fun i:Nat=>([(44,.int .i64 (i:Nat)),(43,.int .i64 (c.ins.length:Nat)),(2,.int .i64 0),(1,.ptr 0 0)],WZ 1 0 [] [(0,some (.cells (CG c) 28 false))])) (fun i=>c.ins.length-i) (fun i=>i≤c.ins.length∧(List.range i).all (iY c)=true) 0 ⟨Qo _,rfl⟩ U (Ao (by repeat' constructor)) ?_;rintro j ⟨hj,jw⟩;dsimp only at hj jw⊢;by_cases h':j<c.ins.length
  ·have ZZ:iY c j=Yh c j c.ins[j]:=by unfold iY;rw[NZ h']
   focus
    refine Es<|Lq (o2 Ck U U) rfl<|Ld<|Aa ?_;refine Ec U (fun g5=>?_) (fun g5=>?_);have h5:=dT g5;refine Ac<|Aa<|Ch.block<|Es<|qm rfl<|qa rfl<|Ld<|Es<|Lo (AA U Em D5 U U (Qc U)) rfl<|qm U ?_;refine Lo (Ad U U (by kernel_rfl) U (Cb.Cs (hit_38 (by omega) (by omega)))) U ?_;refine Lq (on U) rfl<|Ld ?_;refine Ec U (fun g6=>?_) (fun g6=>?_);have h6:=FB g6;refine Es<|qa rfl<|Ld ?_;refine Ab (Er U ?_);rotate_left;have h6:=FC g6;refine Ac<|Ai ?_;refine Lq (Ap (b:=1) U Ck U U (by omega)) U ?_;refine qm rfl<|Ld ?_;rotate_left;have h5:=dF g5;exact absurd h5 (by omega)
   ·have:CV c=false:=by unfold CV;rw[Mj h' (ZZ.trans h6),Bool.and_false,Bool.and_false]
    rw[this];rfl
   ·exact⟨j+1,⟨h',EN jw (ZZ.trans h6)⟩,by show c.ins.length-(j+1)<c.ins.length-j;omega,rfl,rfl,Ao (by repeat' constructor)⟩
  ·focus
    refine Es<|Lq (o2 Ck U U) rfl<|Ld<|Aa ?_;refine Ec U (fun g5=>?_) (fun g5=>?_);have h5:=dT g5;exact absurd h5 (by omega);have h5:=dF g5;refine A1<|AS rfl<|Es<|qa rfl<|Ld ?_;refine Ab (Er U ?_);rotate_left
   obtain rfl:j=c.ins.length:=by omega
   have:CV c=true:=by unfold CV;rw[hs,jw,hhd];rfl
   rw[this];rfl
noncomputable def K15:=Wa K14 13 (fun p:Z7=>[.agg (CG p.1)]) (fun p=> .int .i64 (if CV p.1 then 0 else 2))
theorem Jc {c:Cm} (h:Fits c):K15 13 [.agg (CG c)]=some (.int .i64 (if CV c then 0 else 2)):=
 A3 (f:=13) (enc:=fun p:Z7=>[.agg (CG p.1)]) (res:=fun p=> .int .i64 (if CV p.1 then 0 else 2)) (fun p q h=>by rw[Rc h]) ⟨c,h⟩
theorem zk (h:VG Tryz.prog 10 [] (.bool true)):CK Tryz.prog K15:=Do AC (all14 h) (fun p:Z7=>tU p.1 p.2) (fun _=>rfl) (fun _=>rfl)
section
variable {P : Program}
theorem Fz {t:TypeId} {k:IntKind} {l:List AV} (h:Am.Data P t l) (hu:P.underlying t=some (.int k)):∃n,l=[.int k n]:=by
 cases h with
 |bool h=>rw[hu]at h;cases h
 |int h=>rw[hu]at h;cases h;exact⟨_,rfl⟩
 |str h=>rw[hu]at h;cases h
 |sl h=>rw[hu]at h;cases h
 |st h=>rw[hu]at h;cases h
theorem tV {t:TypeId} {l:List AV} (h:Am.Data P t l) (hu:P.underlying t=some .string):∃w,l=[.str w]:=by
 cases h with
 |bool h=>rw[hu]at h;cases h
 |int h=>rw[hu]at h;cases h
 |str h=>exact⟨_,rfl⟩
 |sl h=>rw[hu]at h;cases h
 |st h=>rw[hu]at h;cases h
theorem xH {t e:TypeId} {l:List AV} (h:Am.Data P t l) (hu:P.underlying t=some (.slice e)):∃ls:List (List AV),l=[.Cd ls.flatten ls.length (P.cellsOf e) true]∧∀x∈ls,Am.Data P e x:=by
 cases h with
 |bool h=>rw[hu]at h;cases h
 |int h=>rw[hu]at h;cases h
 |str h=>rw[hu]at h;cases h
 |sl h hn hl hd=>rw[hu]at h;cases h;exact⟨_,rfl,hd⟩
 |st h=>rw[hu]at h;cases h
theorem Kz {t:TypeId} {fs:Array Field} {l:List AV} (h:Am.Data P t l) (hu:P.underlying t=some (.struct fs)):∃ls:List (List AV),l=ls.flatten∧ls.length=fs.toList.length∧∀(i:Nat) f x,fs.toList[i]?=some f→ls[i]?=some x→Am.Data P f.type x:=by
 cases h with
 |bool h=>rw[hu]at h;cases h
 |int h=>rw[hu]at h;cases h
 |str h=>rw[hu]at h;cases h
 |sl h=>rw[hu]at h;cases h
 |st h hl hd=>rw[hu]at h;cases h;exact⟨_,rfl,hl,hd⟩
theorem QK {α:Type} {enc:α→List AV}:∀ {ls:List (List AV)},(∀l∈ls,∃a,l=enc a)→∃xs:List α,ls=xs.map enc
 | [],_=>⟨[],rfl⟩
 |l::ls,h=>by
  obtain⟨a,rfl⟩:=h l (Qh ..);obtain⟨xs,rfl⟩:=QK (ls:=ls) fun x hx=>h x (Qg _ hx);exact⟨a::xs,rfl⟩
theorem Iu {α:Type} {enc:α→List AV} {t e:TypeId} {k:Nat} {l:List AV} (h:Am.Data P t l) (hu:P.underlying t=some (.slice e)) (hk:P.cellsOf e=k) (hd:∀x,Am.Data P e x→∃a,x=enc a):∃xs:List α,l=[Cq enc k xs]:=by
 obtain⟨ls,rfl,hm⟩:=xH h hu;obtain⟨xs,rfl⟩:=QK fun x hx=>hd x (hm x hx);refine⟨xs,?_⟩;unfold Cq;rw[hk,Qn,List.flatMap_def]
end
noncomputable def fieldsOf (t:TypeId):Array Field:=match Tryz.prog.underlying t with
 |some (.struct fs)=>fs
 |_=> #[]
noncomputable def zl (t:TypeId) (i:Nat):Option TypeId:=((fieldsOf t).toList[i]?).map Field.type
theorem Bg {t:TypeId} {ls:List (List AV)} (hd:∀(i:Nat) f x,(fieldsOf t).toList[i]?=some f→ls[i]?=some x→Am.Data Tryz.prog f.type x) {i:Nat} {u:TypeId} {x:List AV} (h:zl t i=some u) (hx:ls[i]?=some x):Am.Data Tryz.prog u x:=by
 unfold zl at h;obtain⟨f,hf,rfl⟩:=Option.map_eq_some_iff.1 h;exact hd i f x hf hx
theorem data_Z {x:List AV} (h:Am.Data Tryz.prog 3 x):∃n,x=CY n:=Fz h (by kernel_rfl)
theorem data_A {x:List AV} (h:Am.Data Tryz.prog 60 x):∃p,x=XB p:=by
 obtain⟨ls,rfl,hl,hd⟩:=Kz (fs:=fieldsOf 60) h (by kernel_rfl);have hl:ls.length=2:=hl.trans (by kernel_rfl)
 match ls,hl,hd with
 | [a,b],_,hd=>
  obtain⟨m,rfl⟩:=Fz (k:= .i64) (Bg hd (i:=0) (u:=3) (by kernel_rfl) rfl) (by kernel_rfl);obtain⟨n,rfl⟩:=Fz (k:= .i64) (Bg hd (i:=1) (u:=3) (by kernel_rfl) rfl) (by kernel_rfl);exact⟨(m,n),rfl⟩
theorem data_N {x:List AV} (h:Am.Data Tryz.prog 54 x):∃p,x=Cy p:=by
 obtain⟨ls,rfl,hl,hd⟩:=Kz (fs:=fieldsOf 54) h (by kernel_rfl);have hl:ls.length=2:=hl.trans (by kernel_rfl)
 match ls,hl,hd with
 | [a,b],_,hd=>
  obtain⟨w,rfl⟩:=tV (Bg hd (i:=0) (u:=9) (by kernel_rfl) rfl) (by kernel_rfl);obtain⟨n,rfl⟩:=Fz (k:= .i64) (Bg hd (i:=1) (u:=3) (by kernel_rfl) rfl) (by kernel_rfl);exact⟨(w,n),rfl⟩
theorem PK {x:List AV} (h:Am.Data Tryz.prog 26 x):∃l,x=[Cq CY 1 l]:=Iu h (e:=3) (by kernel_rfl) (by kernel_rfl) fun _=>data_Z
theorem xI {x:List AV} (h:Am.Data Tryz.prog 56 x):∃l,x=[Cq XB 2 l]:=Iu h (e:=60) (by kernel_rfl) (by kernel_rfl) fun _=>data_A
theorem Vj {x:List AV} (h:Am.Data Tryz.prog 22 x):∃l,x=[Cq Cy 2 l]:=Iu h (e:=54) (by kernel_rfl) (by kernel_rfl) fun _=>data_N
theorem data_I {x:List AV} (h:Am.Data Tryz.prog 58 x):∃p,x=WN p:=by
 obtain⟨ls,rfl,hl,hd⟩:=Kz (fs:=fieldsOf 58) h (by kernel_rfl);have hl:ls.length=7:=hl.trans (by kernel_rfl)
 match ls,hl,hd with
 | [a,b,c,d,e,f,g],_,hd=>
  obtain⟨op,rfl⟩:=Fz (k:= .i64) (Bg hd (i:=0) (u:=55) (by kernel_rfl) rfl) (by kernel_rfl);obtain⟨a,rfl⟩:=Fz (k:= .i64) (Bg hd (i:=1) (u:=3) (by kernel_rfl) rfl) (by kernel_rfl);obtain⟨alts,rfl⟩:=xI (Bg hd (i:=2) (u:=56) (by kernel_rfl) rfl);obtain⟨to,rfl⟩:=PK (Bg hd (i:=3) (u:=26) (by kernel_rfl) rfl);obtain⟨term,rfl⟩:=Fz (k:= .i64) (Bg hd (i:=4) (u:=37) (by kernel_rfl) rfl) (by kernel_rfl);obtain⟨n,rfl⟩:=Fz (k:= .i64) (Bg hd (i:=5) (u:=3) (by kernel_rfl) rfl) (by kernel_rfl);obtain⟨args,rfl⟩:=PK (Bg hd (i:=6) (u:=26) (by kernel_rfl) rfl);exact⟨⟨op,a,alts,to,term,n,args⟩,rfl⟩
theorem xJ {x:List AV} (h:Am.Data Tryz.prog 25 x):∃l,x=[Cq WN 7 l]:=Iu h (e:=58) (by kernel_rfl) (by kernel_rfl) fun _=>data_I
theorem data_C {x:List AV} (h:Am.Data Tryz.prog 28 x):∃c,x=CG c:=by
 obtain⟨ls,rfl,hl,hd⟩:=Kz (fs:=fieldsOf 28) h (by kernel_rfl);have hl:ls.length=3:=hl.trans (by kernel_rfl)
 match ls,hl,hd with
 | [a,b,c],_,hd=>
  obtain⟨ls2,rfl,aZ,jq⟩:=Kz (fs:=fieldsOf 24) (Bg hd (i:=0) (u:=24) (by kernel_rfl) rfl) (by kernel_rfl);have aZ:ls2.length=2:=aZ.trans (by kernel_rfl);obtain⟨ins,rfl⟩:=xJ (Bg hd (i:=1) (u:=25) (by kernel_rfl) rfl);obtain⟨Cj,rfl⟩:=PK (Bg hd (i:=2) (u:=26) (by kernel_rfl) rfl)
  match ls2,aZ,jq with
  | [a,b],_,jq=>
   obtain⟨cons,rfl⟩:=Vj (Bg jq (i:=0) (u:=22) (by kernel_rfl) rfl);obtain⟨Co,rfl⟩:=Vj (Bg jq (i:=1) (u:=22) (by kernel_rfl) rfl);exact⟨⟨cons,Co,ins,Cj⟩,rfl⟩
end Go.Proofs.YtpihdbhocgcbpaaGreatDoor
