/- The abstract machine: its operations are the model's, first part. -/
import Derived.Test.YtpihdbhocgcbpaaGreatDoorAmA
import Derived.Laws.Tables
import Derived.IntWalk
import Derived.Laws.Strings
import Derived.ChangeKeysEq
import Derived.LaidEql
import Derived.Laws.IdiomStrings
set_option linter.unusedSectionVars false
set_option linter.unusedVariables false
set_option linter.unusedSimpArgs false
namespace Am
open Go
def Wg (E:Env) (C:Cx):Prop:=∀g cs,E.kn g=some cs→∃ms,C.M g=some ms∧VS C cs ms∧Cells cs
theorem Wg.mono {E:Env} {C C':Cx} (h:Wg E C) (e:Ext C C'):Wg E C':=fun g cs hg=>
 let⟨ms,hm,hv,hc⟩:=h g cs hg;⟨ms,e.M _ _ hm,hv.mono e,hc⟩
inductive mi (C:Cx):dX→Deferred→Prop where
 |fn {fn:Fn} {a b:List AV} {x y:Array Value} (hf:∀l,fn≠ .yield l) (ha:VS C a x.toList) (hb:VS C b y.toList):mi C ⟨.fn fn b,a⟩ ⟨.fn fn y,x⟩
 |collected {r:Nat} (hd:C.D r):mi C ⟨.collected r,[]⟩ ⟨.collected (C.pl r).Cn, #[]⟩
inductive qB (C:Cx):AV→Next→Prop where
 |value {v:AV} {x:Value} (h:VR C v x):qB C v (.value x)
 |skip:qB C (.tuple []) .skip
def XN (E:Env) (P:Program) (o:Oper) (so:ZY):Prop:=
 ∀(C:Cx) (T:Tr AV) (a:Act) (S:St) (w:World),Wg E C→TR C a.tmps.size T a.tmps→Wn C S w→
 match so with
 | .bad=>True
 | .pure f=>∀v,f T=some v→∃x,(execOp a.eval o).run P w= .ok (.value x) w∧VR C v x
 | .read _ f=>∀v,f T S=some v→∃x,(execOp a.eval o).run P w= .ok (.value x) w∧VR C v x
 | .look f=>∀v,f T S=some v→∃x,(execOp a.eval o).run P w= .ok (.value x) w∧VR C v x
 | .make f=>(∀v,f T=some (.val v)→∃C' x w',(execOp a.eval o).run P w= .ok (.value x) w'∧Cv C S w C' S w'∧VR C' v x)∧
  (∀ob g,f T=some (.obj ob g)→∃C' x w',(execOp a.eval o).run P w= .ok (.value x) w'∧Cv C S w C' (S.alloc ob) w'∧VR C' (g S.next) x)
 | .act _ _ f=>∀v S',f T S=some (v,S')→∃C' nx w',(execOp a.eval o).run P w= .ok nx w'∧Cv C S w C' S' w'∧qB C' v nx
 | .pick f=>∀l,f T=some l→∃v∈l,∃x,(execOp a.eval o).run P w= .ok (.value x) w∧VR C v x
 | .j6 f=>∀l,f T S=some l→∃p∈l,∃C' x w',(execOp a.eval o).run P w= .ok (.value x) w'∧Cv C S w C' p.2 w'∧VR C' p.1 x
 | .call f=>∀g args,f T S=some (g,args)→∃xs,(execOp a.eval o).run P w= .ok (.enter g xs) w∧VS C args xs.toList
 | .ZB f ar=>∀g args,f T=some g→ar T=some args→∃gx xs,VR C g gx∧VS C args xs.toList∧
  execOp a.eval o=(do let d←Deferred.ofValue gx xs;invoke d.target d.args)
 | .defer f=>∀d,f T=some d→∃dv,(execOp a.eval o).run P w= .ok (.defer dv) w∧mi C d dv
 | .panic f=>∀v,f T=some v→∃x,(execOp a.eval o).run P w= .halt (.panic x) w∧VR C v x
 | .recover=>(execOp a.eval o).run P w= .ok .recover w
theorem Ay {E:Env} {C:Cx} {T:Tr AV} {a:Act} (hg:Wg E C) (hT:TR C a.tmps.size T a.tmps) {x:Operand} {v:AV} (h:Cc E x T=some v):VR C v (a.eval x):=by
 cases x with
 |tmp t=>
  obtain⟨y,hy,hr⟩:=hT.2 t v h;simpa[Act.eval,Array.getD_eq_getD_getElem?,hy]using hr
 |const c=>
  simp only[Cc]at h;cases hc:j7 c with
  |none=>rw[hc]at h;simp[qf,nothing]at h
  |some u=>rw[hc]at h;simp only[qf,oQ]at h;cases h;exact Mr hc
 |global g=>
  simp only[Cc]at h;cases hc:E.kn g with
  |none=>rw[hc]at h;simp[nothing]at h
  |some cs=>
   rw[hc]at h;simp only[oQ]at h;cases h;obtain⟨ms,hm,hv,VX⟩:=hg g cs hc;have hw:Yf ms 0 ms:= .whole ms;exact .WO hm hw hv VX
 |func f=>
  simp only[Cc,oQ]at h;cases h;exact .func (fun l e=>by cases e) .nil .nil
theorem EC {E:Env} {C:Cx} {T:Tr AV} {a:Act} (hg:Wg E C) (hT:TR C a.tmps.size T a.tmps):∀ {l:List Operand} {vs:List AV},CO E l T=some vs→VS C vs (l.map a.eval)
 | [],vs,h=>by cases h;exact .nil
 |x::l,vs,h=>by
  simp only[CO]at h;obtain⟨v,hv,h⟩:=Qa.1 h;obtain⟨r,hr,h⟩:=Qa.1 h;cases h;exact .cons (Ay hg hT hv) (EC hg hT hr)
theorem Mm {E:Env} {C:Cx} {T:Tr AV} {a:Act} (hg:Wg E C) (hT:TR C a.tmps.size T a.tmps):∀ {l:List (Nat×Operand)} {ps:List (Nat×AV)},ZD E l T=some ps→
 ps.map (·.1)=l.map (·.1)∧VS C (ps.map (·.2)) (l.map fun p=>a.eval p.2)
 | [],ps,h=>by cases h;exact⟨rfl,.nil⟩
 |p::l,ps,h=>by
  simp only[ZD]at h;obtain⟨v,hv,h⟩:=Qa.1 h;obtain⟨r,hr,h⟩:=Qa.1 h;cases h;obtain⟨h1,h2⟩:=Mm hg hT hr;exact⟨by simp[h1],.cons (Ay hg hT hv) h2⟩
theorem GS {C:Cx} {v:AV} {x:Value} {n:Nat} (h:VR C v x) (e:VW v=some n):∃k,x= .int k n:=by
 cases h with
 |int k m=>
  cases m with
  |ofNat m=>simp only[VW,Option.some.injEq]at e;subst e;exact⟨k,rfl⟩
  |negSucc m=>simp[VW]at e
 |_=>simp[VW]at e
section
variable {E : Env} {P : Program}
theorem B5 {o:Oper} {x:Operand} {f:AV→Option AV} {G:Value→Sem Value} (ho:∀ρ,execOp ρ o=(do pure (.value (←G (ρ x)))))
 (h:∀(C:Cx) (w:World) v y r,VR C v y→f v=some r→∃z,(G y).run P w= .ok z w∧VR C r z):XN E P o (.pure fun T=>(Cc E x T).bind f):=by
 intro C T a S w hg hT hS v hv;obtain⟨u,hu,hv⟩:=Qa.1 hv;obtain⟨z,hz,hr⟩:=h C w u _ v (Ay hg hT hu) hv;exact⟨z,by rw[ho];simp[hz],hr⟩
theorem FO {o:Oper} {x y:Operand} {f:AV→AV→Option AV} {G:Value→Value→Sem Value} (ho:∀ρ,execOp ρ o=(do pure (.value (←G (ρ x) (ρ y)))))
 (h:∀(C:Cx) (w:World) v u y z r,VR C v y→VR C u z→f v u=some r→∃q,(G y z).run P w= .ok q w∧VR C r q):XN E P o (XT E f x y):=by
 intro C T a S w hg hT hS v hv;obtain⟨u,hu,hv⟩:=Qa.1 hv;obtain⟨u',eD,hv⟩:=Qa.1 hv;obtain⟨z,hz,hr⟩:=h C w u u' _ _ v (Ay hg hT hu) (Ay hg hT eD) hv;exact⟨z,by rw[ho];simp[hz],hr⟩
theorem GH {o:Oper} {x y:Operand} {f:St→AV→Option AV} {G:Value→Sem Value} (ho:∀ρ,execOp ρ o=(do pure (.value (←G (ρ x)))))
 (h:∀(C:Cx) (S:St) (w:World) v y r,Wn C S w→VR C v y→f S v=some r→∃z,(G y).run P w= .ok z w∧VR C r z):
 XN E P o (.read (Cc E y) fun T s=>(Cc E x T).bind (f s)):=by
 intro C T a S w hg hT hS v hv;obtain⟨u,hu,hv⟩:=Qa.1 hv;obtain⟨z,hz,hr⟩:=h C S w u _ v hS (Ay hg hT hu) hv;exact⟨z,by rw[ho];simp[hz],hr⟩
theorem vH {o:Oper} {c x y:Operand} (ho:o.op= .pick c x y):XN E P o (.pure fun T=>(Cc E c T).bind (iE (Cc E x) (Cc E y) T)):=by
 intro C T a S w hg hT hS v h;obtain⟨t,ht,h⟩:=Qa.1 h;have hc:=Ay hg hT ht;generalize he:a.eval c=z at hc;cases hc with
 |bool b=>
  cases b with
  |true=>exact⟨_,by simp[execOp,ho,asBool,he],Ay hg hT h⟩
  |false=>exact⟨_,by simp[execOp,ho,asBool,he],Ay hg hT h⟩
 |_=>simp[iE]at h
theorem TW {o:Oper} {x:Operand} (ho:o.op= .move x∨o.op= .assign x):XN E P o (.pure (Cc E x)):=by
 intro C T a S w hg hT hS v h;refine⟨_,?_,Ay hg hT h⟩;rcases ho with ho|ho<;>simp[execOp,ho]
abbrev Cx.fresh (C:Cx) (S:St) (w:World) (n:Nat):Cx:=C.Cw S.next ⟨w.heap.size,0,n⟩
theorem GB {C:Cx} {S:St} {w:World} (hS:Wn C S w) (n:Nat):Ext C (C.fresh S w n):=Ext.Cw (fun hd=>Nat.lt_irrefl _ (hS.fresh _ hd))
theorem EI {C:Cx} {S:St} {w:World} (hS:Wn C S w) {cs:List AV} {c:Array Value} {vs ex:List Value} (hv:VS C cs vs) (hc:c.toList=vs++ex) (VX:Cells cs)
 (t:TypeId) (part:Bool) (hp:part=false→ex=[]):Cv C S w (C.fresh S w c.size) (S.alloc (.cells cs t part)) (World.VN w (.cells c t (0,0))):=by
 refine Cv.alloc hS _ _ c.size (.cells (hv.mono (GB hS _)) ?_ ?_ VX (.inr (Qj _)) ?_)
 ·rw[Bx,hc];exact⟨[],ex,by simp,rfl⟩
 ·rw[Bx]
 ·intro h;rw[Bx];refine⟨rfl,?_,rfl⟩;have:=congrArg List.length hc;rw[hp h]at this;simpa[hv.length]using this.symm
theorem GA {C:Cx} {S:St} {w:World} {n:Nat} (off:Nat):VR (C.fresh S w n) (.ptr S.next off) (.pointer (some ⟨w.heap.size,off,none⟩)):=by
 have:=VR.ptr (C:=C.fresh S w n) (off:=off) (Jz C S.next ⟨w.heap.size,0,n⟩);rw[Bx]at this;simpa using this
theorem Fa {C:Cx} {S:St} {w:World} {n len sz:Nat} {cap:Option Nat} {c:Nat} (h:match cap with|some k=>c=k∧0<k|none=>c*sz=n∧0<sz) (Yl:len≤c):
 VR (C.fresh S w n) (.slice S.next 0 len sz cap) (.slice (some ⟨w.heap.size,0,none⟩) len c):=by
 have:=VR.slice (C:=C.fresh S w n) (b:=S.next) (off:=0) (len:=len) (sz:=sz) (cap:=cap) (c:=c) (Jz C S.next ⟨w.heap.size,0,n⟩) (by
  cases cap with
  |some k=>exact h
  |none=>simpa[mf,Bx]using h) Yl
 rw[Bx]at this;simpa using this
variable (he : CN E P)
include he
theorem qC {o:Oper} {t:TypeId} (ho:o.op= .alloc t):XN E P o (iF E t):=by
 unfold iF;cases hz:zeroOf E t with
 |none=>intro C T a S w _ _ _;trivial
 |some z=>
  simp only;cases ht:z.isTuple with
  |true=>intro C T a S w _ _ _;trivial
  |false=>
   intro C T a S w hg hT hS;refine⟨(nofun),fun ob g h=>?_⟩;cases h;obtain⟨x,hx,hr,_⟩:=HN he hz w;refine⟨_,_,_,?_,EI hS (hr C).cells (c:=x.cells) (ex:=[]) (by simp) ((hr C).XH ht) t false (fun _=>rfl),GA 0⟩;simp[execOp,ho,Instr.alloc,hx,newVar,newRow,World.VN]
omit he in
theorem z9 {o:Oper} {t:TypeId} {x:Operand} (ho:o.op= .box t x):
 XN E P o (.make fun T=>(Cc E x T).bind fun v=>bif v.isTuple then none else some (.obj (.cells v.cells t false) fun b=> .ptr b 0)):=by
 intro C T a S w hg hT hS;have key:∀m,((Cc E x T).bind fun v=>bif v.isTuple then none else some (Mk.obj (.cells v.cells t false) fun b=> .ptr b 0))=some m→
  ∃v,Cc E x T=some v∧v.isTuple=false∧m= .obj (.cells v.cells t false) fun b=> .ptr b 0:=by
  intro m h;obtain⟨v,hv,h⟩:=Qa.1 h;cases ht:v.isTuple with
  |true=>rw[ht]at h;cases h
  |false=>rw[ht]at h;cases h;exact⟨v,hv,ht,rfl⟩
 refine⟨fun v h=>?_,fun ob g h=>?_⟩
 ·obtain⟨_,_,_,h⟩:=key _ h;cases h
 ·obtain⟨v,hv,ht,h⟩:=key _ h;cases h;have hr:=Ay hg hT hv;refine⟨_,_,_,?_,EI hS hr.cells (c:=(a.eval x).cells) (ex:=[]) (by simp) (hr.XH ht) t false (fun _=>rfl),GA 0⟩;simp[execOp,ho,Instr.box,newVar,newRow,World.VN]
end
theorem MZ (off:Nat):∀(l:List Value) (k:Nat) (c:Array Value),(l.zipIdx k).foldl (fun cs (p:Value×Nat)=>cs.setIfInBounds (off+p.2) p.1) c=putAt c (off+k) l
 | [],_,_=>rfl
 |v::l,k,c=>by
  rw[List.zipIdx_cons,List.foldl_cons,MZ off l (k+1)];rfl
theorem MC {C:Cx} {place:Nat→Option (Nat×Nat)}:∀ {ps:List (Nat×AV)} {qs:List (Nat×Value)} {cells:List AV} {xs:Array Value} {r:List AV},
 ps.map (·.1)=qs.map (·.1)→VS C (ps.map (·.2)) (qs.map (·.2))→VS C cells xs.toList→Cells cells→ZC place ps cells=some r→
 ∃ys,Instr.fill place xs qs=some ys∧VS C r ys.toList∧Cells r∧ys.size=xs.size
 | [],qs,cells,xs,r,h1,_,h3,VX,h=>by
  have:qs=[]:=by cases qs with|nil=>rfl|cons _ _=>simp at h1
  subst this;cases h;exact⟨xs,rfl,h3,VX,rfl⟩
 |p::ps,qs,cells,xs,r,h1,h2,h3,VX,h=>by
  cases qs with
  |nil=>simp at h1
  |cons q qs=>
  obtain⟨qi,qv⟩:=q;obtain⟨i,v⟩:=p;simp only[List.map_cons,List.cons.injEq]at h1;obtain⟨rfl,h1⟩:=h1;simp only[List.map_cons]at h2;cases h2 with
  |cons hv h2=>
  simp only[ZC]at h;obtain⟨q,hq,h⟩:=Qa.1 h;cases hb:(Nat.beq (W6 v.cells) q.2&& !v.isTuple)with
  |false=>rw[hb]at h;cases h
  |true=>
  rw[hb]at h;simp only[Qf,Bool.not_eq_true']at hb;obtain⟨cs,fo,h⟩:=Qa.1 h;have hlen:v.cells.length=q.2:=by have:=Qb hb.1;simpa using this
  have XA:qv.cells.size=q.2:=by have:=hv.cells.length;simpa[hlen]using this
  obtain⟨pre,b7,post,rfl,hp,hm,rfl⟩:=JO fo;obtain⟨y,z3,he,a1,a4⟩:=AY h3;obtain⟨y1,z2,rfl,a2,a3⟩:=AY a1;have ae:(putAt xs q.1 qv.cells.toList).toList=y1++qv.cells.toList++z3:=
   GO _ xs _ y1 z2 z3 he (by rw[a2.length,hp]) (by rw[a3.length,hm,hv.cells.length])
  have hle:q.1+qv.cells.size≤xs.size:=by
   have:=congrArg List.length he;simp only[Qm,Array.length_toList]at this;have e1:=a2.length;have e2:=a3.length;have e3:=hv.cells.length;simp only[Array.length_toList]at e3;omega
  obtain⟨ys,mg,hr,pP,hs⟩:=MC (place:=place) (ps:=ps) (qs:=qs) (xs:=putAt xs q.1 qv.cells.toList) h1 h2 (by rw[ae];exact(a2.append hv.cells).append a4)
   ((VX.sub.1.sub.1.append (hv.XH hb.2)).append VX.sub.2) h
  refine⟨ys,?_,hr,pP,hs.trans (EH _ _ _)⟩;have hz:qv.cells.zipIdx.foldl (fun cs (p:Value×Nat)=>cs.setIfInBounds (q.1+p.2) p.1) xs=putAt xs q.1 qv.cells.toList:=by
   rw[←Array.foldl_toList,Array.toList_zipIdx];exact MZ q.1 _ 0 xs
  have hc:(decide (qv.cells.size≠q.2)||decide (q.1+qv.cells.size>xs.size))=false:=by
   simp[XA];omega
  obtain⟨q1,q2⟩:=q;simp only at hc hz mg;simp only[Instr.fill,hq];rw[hc];simp only[Bool.false_eq_true,if_false];rw[←mg,←hz]
section
variable {E : Env} {P : Program} (he : CN E P)
include he
theorem N5:∀ {l:List Field} {ps:List (Nat×Nat)},aj E l=some ps→l.mapM (fun f=>(P.info? f.type).map fun i=>(f.offset,i.size))=some ps
 | [],ps,h=>by cases h;rfl
 |f::l,ps,h=>by
  simp only[aj]at h;obtain⟨n,hn,h⟩:=Qa.1 h;obtain⟨r,hr,h⟩:=Qa.1 h;cases h;have ih:=N5 hr;unfold Am.sizeOf at hn;cases hi:E.tys.get f.type with
  |none=>rw[hi]at hn;cases hn
  |some i=>
   rw[hi]at hn;simp[List.mapM_cons,ih,he.ty _ i hi,Option.some.inj hn]
theorem qD {o:Oper} {t:TypeId} {parts:Array (Nat×Operand)} (ho:o.op= .build t parts):XN E P o (ig E t parts.toList):=by
 unfold ig;cases X3:Ct E t with
 |none=>intro C T a S w _ _ _;trivial
 |some pl=>
  intro C T a S w hg hT hS v h;obtain⟨ps,ow,h⟩:=Qa.1 h;obtain⟨h1,h2⟩:=Mm hg hT ow;cases hf:ZC pl.2 ps pl.1 with
  |none=>rw[hf]at h;cases h
  |some r=>
  rw[hf]at h;cases h;unfold Ct at X3;obtain⟨z,hz,X3⟩:=Qa.1 X3;obtain⟨x,hx,hr,hiz⟩:=HN he hz w;have iM:Cells z.cells:=(hr C).XH (Et hz);cases hu:C7 E t with
  |none=>rw[hu]at X3;cases X3
  |some d=>
  rw[hu]at X3;have dK:ps.map (·.1)=(parts.toList.map fun p=>(p.1,a.eval p.2)).map (·.1):=by simpa[List.map_map,Function.comp_def]using h1
  have jg:VS C (ps.map (·.2)) ((parts.toList.map fun p=>(p.1,a.eval p.2)).map (·.2)):=by simpa[List.map_map,Function.comp_def]using h2
  split at X3
  ·next fields heq=>
   cases heq;obtain⟨pls,hpls,X3⟩:=Qa.1 X3;cases X3;have hfun:(nth pls:Nat→Option (Nat×Nat))=fun i=>pls[i]?:=by funext i;simp[EP]
   simp only at hf;rw[hfun]at hf;obtain⟨ys,mg,oY,pP,_⟩:=MC dK jg (hr C).cells iM hf;refine⟨.agg ys,?_,.agg oY pP⟩;have hpp:=run_places (P:=P) w _ _ (N5 he hpls);simp[execOp,ho,Instr.build,hx,Ak he hu,Array.mapM_eq_mapM_toList,hpp,mg]
  ·next n elem heq=>
   cases heq;obtain⟨sz,XA,X3⟩:=Qa.1 X3;cases X3;simp only at hf;obtain⟨ys,mg,oY,pP,_⟩:=MC dK jg (hr C).cells iM hf;refine⟨.agg ys,?_,.agg oY pP⟩;simp[execOp,ho,Instr.build,hx,Ak he hu,AM he XA,mg]
  ·cases X3
omit he in
theorem VS.nth {C:Cx} {l:List AV} {x:List Value} (h:VS C l x) {i:Nat} {v:AV} (e:Am.nth l i=some v):∃y,x[i]?=some y∧VR C v y:=
 h.get (by rw[←EP];exact e)
omit he in
theorem VS.cut {C:Cx} {l q:List AV} {x:List Value} (h:VS C l x) {off n:Nat} (e:Am.cut l off n=some q):
 ∃y,VS C q y∧y=(x.drop off).take n∧q.length=n∧(Cells l→Cells q)∧off+n≤x.length∧Yf x off y:=by
 obtain⟨pre,post,rfl,hp,hn⟩:=He e;obtain⟨y,z3,rfl,a1,a3⟩:=AY h;obtain⟨y1,y2,rfl,a2,a4⟩:=AY a1;have e1:=a2.length;have e2:=a4.length;refine⟨y2,a4,?_,hn,fun hc=>hc.sub.1.sub.2,?_,⟨y1,z3,rfl,by omega⟩⟩
 ·rw[←hp,←e1];simp[←hn,←e2]
 ·simp;omega
theorem Ft {t:TypeId} {n:Nat} (h1:isAgg E t=some true) (h2:Am.sizeOf E t=some n) {C:Cx} {cs:List AV} {xs:Array Value} (hv:VS C cs xs.toList) (hc:Cells cs)
 {off:Nat} {q:List AV} (e:Am.cut cs off n=some q) (w:World):∃z,(part t xs off).run P w= .ok z w∧VR C (.agg q) z:=by
 obtain⟨y,hy,rfl,hq,hcq,hle,_⟩:=hv.cut e;refine⟨.agg (xs.extract off (off+n)),by simp[part,Mh he h1,AM he h2],.agg ?_ (hcq hc)⟩;simpa[List.extract_eq_take_drop]using hy
theorem Eu {t:TypeId} (h1:isAgg E t=some false) {C:Cx} {cs:List AV} {xs:Array Value} (hv:VS C cs xs.toList)
 {off:Nat} {v:AV} (e:Am.nth cs off=some v) (w:World):∃z,(part t xs off).run P w= .ok z w∧VR C v z:=by
 obtain⟨y,hy,hr⟩:=hv.nth e;have mh:xs[off]?=some y:=by simpa using hy
 exact⟨y,by simp[part,Mh he h1,mh],hr⟩
omit he in
theorem GC {t:TypeId} {i off n:Nat} {b:Bool} (h:Cf E t i=some (off,n,b)):
 ∃fs f,C7 E t=some (.struct fs)∧fs[i]?=some f∧f.offset=off∧Am.sizeOf E f.type=some n∧isAgg E f.type=some b:=by
 unfold Cf at h;split at h
 ·next fs hu=>
  obtain⟨f,hf,h⟩:=Qa.1 h;obtain⟨n',hn,h⟩:=Qa.1 h;obtain⟨a,ha,h⟩:=Qa.1 h;cases h;exact⟨fs,f,hu,by rw[EP]at hf;simpa using hf,rfl,hn,ha⟩
 ·cases h
theorem qE {o:Oper} {t:TypeId} {x:Operand} {i:Nat} (ho:o.op= .field t x i):XN E P o (ng E t x i):=by
 unfold ng;split
 ·next off n hf=>
  obtain⟨fs,f,hu,oZ,rfl,hn,ha⟩:=GC hf;refine B5 (G:=fun v=>Instr.field t v i) (fun ρ=>by simp[execOp,ho]) ?_;intro C w v y r hv hr;cases hv with
  |agg Wk VX=>
   simp only[YW]at hr;obtain⟨l,hl,hr⟩:=Qa.1 hr;cases ht:takeN n l with
   |none=>rw[ht]at hr;cases hr
   |some q=>
    rw[ht]at hr;cases hr;obtain⟨z,hz,bN⟩:=Ft (P:=P) he ha hn Wk VX (q:=q) (off:=f.offset) (by rw[cut,hl];exact ht) w;exact⟨z,by simp[Instr.field,Ak he hu,oZ,asAgg,hz],bN⟩
  |_=>simp[YW]at hr
 ·next off n hf=>
  obtain⟨fs,f,hu,oZ,rfl,hn,ha⟩:=GC hf;refine B5 (G:=fun v=>Instr.field t v i) (fun ρ=>by simp[execOp,ho]) ?_;intro C w v y r hv hr;cases hv with
  |agg Wk VX=>
   obtain⟨z,hz,bN⟩:=Eu (P:=P) he ha Wk hr w;exact⟨z,by simp[Instr.field,Ak he hu,oZ,asAgg,hz],bN⟩
  |_=>simp[Z8]at hr
 ·intro C T a S w _ _ _;trivial
omit he in
theorem FN {C:Cx} {v r:AV} {x:Value} {n:Nat} (h:VR C v x) (e:XE n v=some r):∃a,x= .pointer (some a)∧VR C r (.pointer (some (a.add n))):=by
 cases h with
 |ptr hd=>
  simp only[XE,Option.some.injEq]at e;subst e;exact⟨_,rfl,by rw[B7,Nat.add_assoc];exact .ptr hd⟩
 |WO hm ha hv VX=>
  simp only[XE]at e;obtain⟨l,hl,e⟩:=Qa.1 e;cases e;obtain⟨pre,rfl,hp⟩:=Dz hl;obtain⟨y,z,rfl,h1,h2⟩:=AY hv;refine⟨_,rfl,?_⟩;rw[B7,←hp,←h1.length];exact .WO hm ha.right h2 VX.sub.2
 |_=>simp[XE]at e
theorem NB {o:Oper} {t:TypeId} {x:Operand} {i:Nat} (ho:o.op= .fieldAddr t x i):XN E P o (Yv E t x i):=by
 unfold Yv;split
 ·next off n b hf=>
  obtain⟨fs,f,hu,oZ,rfl,hn,ha⟩:=GC hf;refine B5 (G:=fun v=>Instr.fieldAt t v i) (fun ρ=>by simp[execOp,ho]) ?_;intro C w v y r hv hr;obtain⟨a,rfl,hra⟩:=FN hv hr;exact⟨_,by simp[Instr.fieldAt,Ak he hu,oZ,Instr.sureAddr,fieldPlace,AM he hn],hra⟩
 ·intro C T a S w _ _ _;trivial
end
section
variable {E : Env} {P : Program} (he : CN E P)
theorem A5 {o:Oper}:XN E P o .bad:=fun _ _ _ _ _ _ _ _=>trivial
theorem G3 {C:Cx} {v:AV} {x:Value} {n:Nat} (h:VR C v x) (e:VW v=some n):∃k,x= .int k (n:Int):=GS h e
theorem P1 {C:Cx} {v r:AV} {x:Value} {sz k:Nat} (h:VR C v x) (e:CQ sz k v=some r):
 ∃a len c,x= .slice (some a) len c∧k<len∧VR C r (.pointer (some (a.add (k*sz)))):=by
 cases h with
 |slice hd hc Yl=>
  rename_i b off len Yp cap c
  simp only[CQ]at e;cases hk:Nat.blt k len with
  |false=>rw[hk]at e;cases e
  |true=>
   rw[hk]at e;cases e;exact⟨_,_,_,rfl,by simpa[Nat.blt_eq]using hk,by rw[B7,Nat.add_assoc];exact .ptr hd⟩
 |Xj zA hd hc=>
  simp only[CQ]at e;have:Nat.blt k 0=false:=by cases k<;>rfl
  rw[this]at e;cases e
 |VT a h Yl=>
  rename_i Yp cl len c
  simp only[CQ]at e;cases hk:Nat.blt k len with
  |false=>rw[hk]at e;cases e
  |true=>
   rw[hk]at e;obtain⟨l,hl,e⟩:=Qa.1 e;obtain⟨pre,hp,_⟩:=Dz hl;have:l=[]:=by
    have:=congrArg List.length hp;simp at this;exact List.eq_nil_of_length_eq_zero (by omega)
   subst this;simp[j9]at e
 |Cd hl hm ha hv XK VX Yl=>
  rename_i Cn off len Yp c cl cs ms vs
  simp only[CQ]at e;cases hk:Nat.blt k len with
  |false=>rw[hk]at e;cases e
  |true=>
   rw[hk]at e;obtain⟨l,gK,e1⟩:=Qa.1 e;obtain⟨pre,rfl,hp⟩:=Dz gK;obtain⟨y,z,rfl,h1,h2⟩:=AY hv;have:r= .WO l:=by
    unfold j9 at e1;split at e1
    ·cases e1
    ·cases e1;rfl
   subst this;refine⟨_,_,_,rfl,by simpa[Nat.blt_eq]using hk,?_⟩;rw[B7,←hp,←h1.length];exact .WO hm ha.right h2 VX.sub.2
 |_=>simp[CQ]at e
include he
theorem NA {o:Oper} {t:TypeId} {x i:Operand} (ho:o.op= .indexAddr t x i):XN E P o (Wy E t x i):=by
 unfold Wy;split
 ·next n elem hu=>
  split
  ·next sz XA=>
   intro C T a S w hg hT hS v h;obtain⟨iv,vI,h⟩:=Qa.1 h;obtain⟨k,hk,h⟩:=Qa.1 h;cases hb:Nat.blt k n with
   |false=>rw[hb]at h;cases h
   |true=>
   rw[hb]at h;obtain⟨u,eD,h⟩:=Qa.1 h;obtain⟨ki,qF⟩:=G3 (Ay hg hT vI) hk;obtain⟨ad,lG,hr⟩:=FN (Ay hg hT eD) h;have C6:k<n:=by simpa[Nat.blt_eq]using hb
   refine⟨_,?_,hr⟩;simp[execOp,ho,Instr.indexAt,qF,asIntOf,Ak he hu,lG,Instr.sureAddr,AM he XA,C6]
  ·exact A5
 ·next elem hu=>
  split
  ·next sz XA=>
   intro C T a S w hg hT hS v h;obtain⟨iv,vI,h⟩:=Qa.1 h;obtain⟨k,hk,h⟩:=Qa.1 h;obtain⟨u,eD,h⟩:=Qa.1 h;obtain⟨ki,qF⟩:=G3 (Ay hg hT vI) hk;obtain⟨ad,len,c,lG,C6,hr⟩:=P1 (Ay hg hT eD) h;refine⟨_,?_,hr⟩;simp[execOp,ho,Instr.indexAt,qF,asIntOf,Ak he hu,lG,AM he XA,C6]
  ·exact A5
 ·exact A5
theorem qG {o:Oper} {t:TypeId} {x i:Operand} (ho:o.op= .index t x i):XN E P o (dY E t x i):=by
 unfold dY;split
 ·next n elem hu=>
  split
  ·next sz ha XA=>
   intro C T a S w hg hT hS v h;obtain⟨iv,vI,h⟩:=Qa.1 h;obtain⟨k,hk,h⟩:=Qa.1 h;cases hb:Nat.blt k n with
   |false=>rw[hb]at h;cases h
   |true=>
   rw[hb]at h;obtain⟨u,eD,h⟩:=Qa.1 h;obtain⟨ki,qF⟩:=G3 (Ay hg hT vI) hk;have hv:=Ay hg hT eD;have C6:k<n:=by simpa[Nat.blt_eq]using hb
   generalize hx:a.eval x=xv at hv;cases hv with
   |agg Wk VX=>
    simp only[ku]at h;obtain⟨l,hl,h⟩:=Qa.1 h;cases ht:takeN sz l with
    |none=>rw[ht]at h;cases h
    |some q=>
     rw[ht]at h;cases h;obtain⟨z,hz,bN⟩:=Ft (P:=P) he ha XA Wk VX (q:=q) (off:=k*sz) (by rw[cut,hl];exact ht) w;exact⟨z,by simp[execOp,ho,Instr.index,qF,asIntOf,Ak he hu,hx,AM he XA,C6,hz],bN⟩
   |_=>simp[ku]at h
  ·next sz ha XA=>
   intro C T a S w hg hT hS v h;obtain⟨iv,vI,h⟩:=Qa.1 h;obtain⟨k,hk,h⟩:=Qa.1 h;cases hb:Nat.blt k n with
   |false=>rw[hb]at h;cases h
   |true=>
   rw[hb]at h;obtain⟨u,eD,h⟩:=Qa.1 h;obtain⟨ki,qF⟩:=G3 (Ay hg hT vI) hk;have hv:=Ay hg hT eD;have C6:k<n:=by simpa[Nat.blt_eq]using hb
   generalize hx:a.eval x=xv at hv;cases hv with
   |agg Wk VX=>
    simp only[eI]at h;obtain⟨z,hz,bN⟩:=Eu (P:=P) he ha Wk h w;exact⟨z,by simp[execOp,ho,Instr.index,qF,asIntOf,Ak he hu,hx,AM he XA,C6,hz],bN⟩
   |_=>simp[eI]at h
  ·exact A5
 ·next hu=>
  intro C T a S w hg hT hS v h;obtain⟨iv,vI,h⟩:=Qa.1 h;obtain⟨k,hk,h⟩:=Qa.1 h;obtain⟨u,eD,h⟩:=Qa.1 h;obtain⟨ki,qF⟩:=G3 (Ay hg hT vI) hk;have hv:=Ay hg hT eD;generalize hx:a.eval x=xv at hv;cases hv with
  |str hs=>
   rename_i l s
   simp only[eJ]at h;obtain⟨b,hb,h⟩:=Qa.1 h;cases h;have YN:s[k]?=some b:=by
    rw[EP,←hs]at hb;have:s.data[k]?=some b:=by simpa using hb
    exact this
   refine⟨.int .u8 b.toNat,?_,.int _ _⟩;simp[execOp,ho,Instr.index,qF,asIntOf,Ak he hu,hx,YN]
  |_=>simp[eJ]at h
 ·exact A5
theorem vJ {o:Oper} {t:TypeId} {x:Operand} (ho:o.op= .load t x):XN E P o (.read (Cc E x) fun T s=>(Cc E x T).bind (Wu E t s)):=by
 refine GH (G:=fun v=>Instr.loadAt t v) (fun ρ=>by simp[execOp,ho]) ?_;intro C S w v y r hS hv hr;obtain⟨a,z,rfl,hz,bN⟩:=HZ (P:=P) he hS hv hr;exact⟨z,by simp[Instr.loadAt,Instr.sureAddr,hz],bN⟩
theorem qH {o:Oper} {t:TypeId} {x y:Operand} (ho:o.op= .store t x y):XN E P o (ee E t x y):=by
 unfold ee;split
 ·next n hn=>
  intro C T a S w hg hT hS v S' h;obtain⟨p,hp,h⟩:=Qa.1 h;obtain⟨u,hu,h⟩:=Qa.1 h;unfold ai at h;split at h
  ·next S1 hs=>
   cases h;obtain⟨ad,w',lG,hw,ht⟩:=Tg (P:=P) he hS hn (Ay hg hT hu) (Ay hg hT hp) hs;exact⟨C,.skip,w',by simp[execOp,ho,Instr.storeAt,lG,Instr.sureAddr,hw],ht,.skip⟩
  ·cases h
 ·exact A5
omit he in
theorem Se {o:Oper} {x:Operand} {i:Nat} (ho:o.op= .extract x i):XN E P o (.pure fun T=>(Cc E x T).bind (aP i)):=by
 refine B5 (G:=fun v=>Instr.extract v i) (fun ρ=>by simp[execOp,ho]) ?_;intro C w v y r hv hr;cases hv with
 |tuple Wk=>
  simp only[aP]at hr;obtain⟨z,hz,bN⟩:=Wk.nth hr;have hz':=hz;simp only[Array.getElem?_toList]at hz';exact⟨z,by simp[Instr.extract,hz'],bN⟩
 |_=>simp[aP]at hr
theorem N9 {o:Oper} {t:TypeId} {x:Operand} (ho:o.op= .makeInterface t x):XN E P o (ZL E t x):=by
 unfold ZL;split
 ·next hi=>
  refine B5 (f:=fun v=>some (.iface t v)) (G:=fun v=>Instr.makeInterface t v) (fun ρ=>by simp[execOp,ho]) ?_;intro C w v y r hv hr;cases hr;refine⟨.iface t y,?_,.iface hv⟩;unfold CC at hi;split at hi
  ·cases hi
  ·next d hd hu=>
   simp only[Instr.makeInterface,Sem.run_bind,Ak he hu,Result.andThen_ok];cases d<;>first|rfl|exact absurd rfl (hd _)
  ·cases hi
 ·exact A5
omit he in
theorem Su {fn:Fn} (h:dk fn=false):∀l,fn≠ .yield l:=by
 intro l e;subst e;cases h
omit he in
theorem Pj {o:Oper} {fn:Fn} {x y:Array Operand} (ho:o.op= .makeFunc fn x y):XN E P o (fR E fn x.toList y.toList):=by
 unfold fR;cases hf:dk fn with
 |true=>exact A5
 |false=>
 intro C T a S w hg hT hS v h;obtain⟨p,hp,h⟩:=Qa.1 h;obtain⟨q,hq,h⟩:=Qa.1 h;cases h;exact⟨.func fn (x.map a.eval) (y.map a.eval),by simp[execOp,ho,Instr.makeFunc],.func (Su hf) (by simpa using EC hg hT hp) (by simpa using EC hg hT hq)⟩
theorem Sc {o:Oper} {t:TypeId} {r:Option Operand} (ho:o.op= .makeMap t r):XN E P o (cA E t r):=by
 have key:∀ {C:Cx} {S:St} {w:World},Wn C S w→Cv C S w (C.fresh S w 0) (S.alloc (.map [] 0)) (World.VN w (.map #[] 0))∧VR (C.fresh S w 0) (.map S.next) (.map (some w.heap.size)):=by
  intro C S w hS;have no:∀n,¬C.G S.next n:=fun n hn=>absurd (hS.fresh _ (hS.stamps _ _ hn)) (Nat.lt_irrefl _);refine⟨Cv.alloc hS _ _ 0 (.map (l:=[]) (by simp) .nil ⟨by simp,by simp⟩ (by simp) (fun n hn=>absurd hn (no n)) (fun n hn=>absurd hn (no n)) (fun n _ hn=>absurd hn (no n))),?_⟩
  ·have:=VR.map (C:=C.fresh S w 0) (Jz C S.next ⟨w.heap.size,0,0⟩);rw[Bx]at this;exact this
 unfold cA;split
 ·next k e hu=>
  intro C T a S w hg hT hS;refine⟨(nofun),fun ob g h=>?_⟩;cases h;exact⟨_,_,_,by simp[execOp,ho,Instr.makeMap,World.VN],(key hS).1,(key hS).2⟩
 ·next k e x hu=>
  intro C T a S w hg hT hS;have hh:∀m,((Cc E x T).bind fun v=>(VW v).bind fun _=>some (Mk.obj (.map [] 0) .map))=some m→∃kd n,a.eval x= .int kd n∧m= .obj (.map [] 0) .map:=by
   intro m h;obtain⟨p,hp,h⟩:=Qa.1 h;obtain⟨n,hn,h⟩:=Qa.1 h;cases h;obtain⟨kd,y9⟩:=GS (Ay hg hT hp) hn;exact⟨kd,_,y9,rfl⟩
  refine⟨fun v h=>?_,fun ob g h=>?_⟩
  ·obtain⟨_,_,_,h⟩:=hh _ h;cases h
  ·obtain⟨kd,n,hx,h⟩:=hh _ h;cases h;exact⟨_,_,_,by simp[execOp,ho,Instr.makeMap,Ak he hu,hx,asInt,asIntOf,World.VN],(key hS).1,(key hS).2⟩
 ·exact A5
omit he in
theorem qI {o:Oper} {x:Operand} (ho:o.op= .panic x):XN E P o (.panic fun T=>(Cc E x T).bind kK):=by
 intro C T a S w hg hT hS v h;obtain⟨p,hp,h⟩:=Qa.1 h;have hv:=Ay hg hT hp;generalize hx:a.eval x=xv at hv;cases hv with
 |iface hv=>cases h;exact⟨_,by simp[execOp,ho,hx,Instr.panic],.iface hv⟩
 |_=>simp[kK]at h
end
section
variable {E : Env} {P : Program}
theorem VS.repeat {C:Cx} {z:List AV} {x:List Value} (h:VS C z x):∀n,VS C (WQ z n) ((List.replicate n x).flatten)
 |0=> .nil
 |n+1=>by
  rw[List.replicate_succ,List.flatten_cons];exact h.append (VS.repeat h n)
theorem Cells.repeat {z:List AV} (h:Cells z):∀n,Cells (WQ z n)
 |0=>fun _ h=>by cases h
 |n+1=>h.append (Cells.repeat h n)
theorem JJ (z:Array Value) (n:Nat):((Array.range (n*z.size)).map fun i=>z[i % z.size]!).toList=(List.replicate n z.toList).flatten:=by
 apply List.ext_getElem?;intro i;rcases Nat.eq_zero_or_pos z.size with h0|h0
 ·have:z= #[]:=by simpa using h0
  subst this;simp
 ·have hl:((List.replicate n z.toList).flatten).length=n*z.size:=by simp
  rcases Nat.lt_or_ge i (n*z.size)with hi|hi
  ·have hm:i % z.size<z.size:=Nat.mod_lt _ h0;have key:∀(n i:Nat),i<n*z.size→((List.replicate n z.toList).flatten)[i]?=z.toList[i % z.size]?:=by
    intro n;induction n with
    |zero=>intro i hi;simp at hi
    |succ n ih=>
     intro i hi;rw[List.replicate_succ,List.flatten_cons];rcases Nat.lt_or_ge i z.size with h|h
     ·rw[List.getElem?_append_left (by simpa using h),Nat.mod_eq_of_lt h]
     ·rw[List.getElem?_append_right (by simpa using h),Array.length_toList,ih _ (by rw[Nat.succ_mul]at hi;omega),←Nat.mod_eq_sub_mod h]
   rw[key n i hi];simp[hi,hm]
  ·rw[List.getElem?_eq_none (l:=(List.replicate n z.toList).flatten) (by rw[hl];exact hi),List.getElem?_eq_none (by simpa using hi)]
theorem Gt {n:Nat} (h:n≤1099511627776):IntKind.i64.wrap (n:Int)=n:=Go.IntWalk.i64_in _ (by omega)
theorem Ef {n b:Nat} (h:small n b=true):n*b≤1099511627776∧n≤1099511627776∧0<b∧b≤1048576:=by
 simp only[small,Qf,Bool.not_eq_true']at h;obtain⟨⟨⟨h1,h2⟩,h3⟩,h4⟩:=h;refine⟨Qc h1,Qc h2,?_,Qc h4⟩;rcases Nat.eq_zero_or_pos b with h|h
 ·subst h;simp at h3
 ·exact h
variable (he : CN E P)
include he
theorem N8 {o:Oper} {t:TypeId} {l c:Operand} (ho:o.op= .makeSlice t l c):XN E P o (ZJ E t l c):=by
 unfold ZJ;split
 ·next e hu=>
  split
  ·next sz WJ z XA aW hz=>
   cases hb:Nat.beq (W6 z.cells) sz with
   |false=>exact A5
   |true=>
   have pQ:z.cells.length=sz:=by have:=Qb hb;simpa using this
   intro C T a S w hg hT hS;obtain⟨x,hx,hr,_⟩:=HN he hz w;obtain⟨i,hi,vK⟩:=Nv he aW w;have ZQ:x.cells.size=sz:=by have:=(hr C).cells.length;simpa[pQ]using this
   have main:∀m,((Cc E l T).bind fun a=>(Cc E c T).bind fun b=>(VW a).bind fun n=>(VW b).bind fun m=>Yw e sz WJ z.cells n m)=some m→
    ∃(n k:Nat) (ki kj:IntKind),a.eval l= .int ki (n:Int)∧a.eval c= .int kj (k:Int)∧Yw e sz WJ z.cells n k=some m:=by
    intro m h;obtain⟨p,hp,h⟩:=Qa.1 h;obtain⟨q,hq,h⟩:=Qa.1 h;obtain⟨n,hn,h⟩:=Qa.1 h;obtain⟨k,hk,h⟩:=Qa.1 h;obtain⟨ki,qF⟩:=GS (Ay hg hT hp) hn;obtain⟨kj,hkj⟩:=GS (Ay hg hT hq) hk;exact⟨n,k,ki,kj,qF,hkj,h⟩
   have yA:zeroOf E e=some z:=hz;have conds:∀(n k:Nat) m,Yw e sz WJ z.cells n k=some m→n≤k∧(k=0∨(k*WJ≤1099511627776∧k≤1099511627776))∧
    ((k=0∧m= .val .Ca)∨(k≠0∧m= .obj (.cells (WQ z.cells k) e false) fun b=> .slice b 0 n sz (some k))):=by
    intro n k m h;unfold Yw at h;cases h1:(Nat.ble n k&&(Nat.beq k 0||small k WJ))with
    |false=>rw[h1]at h;cases h
    |true=>
     rw[h1]at h;simp only[Qf,Bool.or_eq_true]at h1;refine⟨Qc h1.1,?_,?_⟩
     ·rcases h1.2 with h2|h2
      ·exact .inl (Qb h2)
      ·exact .inr ⟨(Ef h2).1,(Ef h2).2.1⟩
     ·cases h2:Nat.beq k 0 with
      |true=>rw[h2]at h;cases h;exact .inl ⟨Qb h2,rfl⟩
      |false=>
       rw[h2]at h;cases h;exact .inr ⟨fun e=>by subst e;simp at h2,rfl⟩
   have runs:∀(n k:Nat) (ki kj:IntKind),n≤k→(k=0∨(k*WJ≤1099511627776∧k≤1099511627776))→a.eval l= .int ki (n:Int)→a.eval c= .int kj (k:Int)→
    (execOp a.eval o).run P w= .ok (.value (.slice (some ⟨w.heap.size,0,none⟩) n k)) (World.VN w (.cells ((Array.range (k*x.cells.size)).map fun i=>x.cells[i % x.cells.size]!) e (0,0))):=by
    intro n k ki kj h1 h2 h3 h4;have hk:k*WJ≤1099511627776∧k≤1099511627776:=by
     rcases h2 with h2|h2
     ·subst h2;simp
     ·exact h2
    have w1:IntKind.i64.wrap (n:Int)=n:=Gt (by omega);have w2:IntKind.i64.wrap (k:Int)=k:=Gt (by omega);have qJ:¬(281474976710656<(i.bytes:Int)*(k:Int)):=by
     rw[vK];have:(WJ:Int)*(k:Int)=((k*WJ:Nat):Int):=by push_cast;exact Int.mul_comm _ _
     rw[this];omega
    have yB:¬(k<n):=by omega
    have r0:Array.range 0= #[]:=rfl;have iN:∀m:Nat,¬((m:Int)<0):=fun m=>by omega
    by_cases h0:k*sz=0
    ·simp[execOp,ho,Instr.makeSlice,Ak he hu,h3,h4,asInt,asIntOf,hi,w1,w2,qJ,iN,yB,AM he XA,h0,ZQ,r0,newRow,World.VN]
    ·simp[execOp,ho,Instr.makeSlice,Ak he hu,h3,h4,asInt,asIntOf,hi,w1,w2,qJ,iN,yB,AM he XA,h0,ZQ,hx,newRow,World.VN]
   refine⟨fun v h=>?_,fun ob g h=>?_⟩
   ·obtain⟨n,k,ki,kj,h1,h2,h3⟩:=main _ h;obtain⟨c1,c2,c3⟩:=conds n k _ h3;rcases c3 with⟨rfl,c3⟩|⟨_,c3⟩
    ·cases c3;obtain rfl:n=0:=by omega
     exact⟨_,_,_,runs 0 0 ki kj c1 c2 h1 h2,KM hS _,.Ca _ (.some (.inr U))⟩
    ·cases c3
   ·obtain⟨n,k,ki,kj,h1,h2,h3⟩:=main _ h;obtain⟨c1,c2,c3⟩:=conds n k _ h3;rcases c3 with⟨rfl,c3⟩|⟨z5,c3⟩
    ·cases c3
    ·cases c3;have hzc:=(hr C).XH (Et hz);refine⟨_,_,_,runs n k ki kj c1 c2 h1 h2,EI hS ((hr C).cells.repeat k) (ex:=[]) ?_ (hzc.repeat k) e false (fun _=>rfl),Fa (cap:=some k) ⟨rfl,Nat.pos_of_ne_zero z5⟩ c1⟩;rw[JJ];simp
  ·exact A5
 ·exact A5
end
section
variable {E : Env} {P : Program} (he : CN E P)
include he
theorem Mq {o:Oper} {t:TypeId} {len:Nat} {parts:Array (Nat×Operand)} (ho:o.op= .buildSlice t len parts):XN E P o (XZ E t len parts.toList):=by
 unfold XZ;split
 ·next e hu=>
  split
  ·next sz z XA hz=>
   cases hb:(Nat.beq (W6 z.cells) sz&&Nat.ble (len*sz) 16777216&& !(Nat.beq sz 0))with
   |false=>exact A5
   |true=>
   simp only[Qf,Bool.not_eq_true']at hb;obtain⟨⟨bW,dw⟩,mj⟩:=hb;have pQ:z.cells.length=sz:=by have:=Qb bW;simpa using this
   have hle:len*sz≤16777216:=Qc dw;have jh:sz≠0:=fun e=>by subst e;simp at mj
   intro C T a S w hg hT hS;obtain⟨x,hx,hr,_⟩:=HN he hz w;have ZQ:x.cells.size=sz:=by have:=(hr C).cells.length;simpa[pQ]using this
   have hzc:=(hr C).XH (Et hz);have main:∀m,((ZD E parts.toList T).bind fun ps=>Zh e sz len (ZC (fun i=>some (i*sz,sz)) ps (WQ z.cells len)))=some m→
    ∃r ys,VS C r ys.toList∧Cells r∧ys.size=len*sz∧(execOp a.eval o).run P w= .ok (.value (.slice (some ⟨w.heap.size,0,none⟩) len len)) (World.VN w (.cells ys e (0,0)))∧
     ((len=0∧m= .val .Ca)∨(len≠0∧m= .obj (.cells r e false) fun b=> .slice b 0 len sz (some len))):=by
    intro m h;obtain⟨ps,ow,h⟩:=Qa.1 h;obtain⟨h1,h2⟩:=Mm hg hT ow;have dK:ps.map (·.1)=(parts.toList.map fun p=>(p.1,a.eval p.2)).map (·.1):=by simpa[List.map_map,Function.comp_def]using h1
    have jg:VS C (ps.map (·.2)) ((parts.toList.map fun p=>(p.1,a.eval p.2)).map (·.2)):=by simpa[List.map_map,Function.comp_def]using h2
    cases hf:ZC (fun i=>some (i*sz,sz)) ps (WQ z.cells len)with
    |none=>rw[hf]at h;cases h
    |some r=>
    rw[hf]at h;simp only[Zh]at h;have hrm:=JJ x.cells len;obtain⟨ys,mg,oY,pP,qK⟩:=MC (xs:=(Array.range (len*x.cells.size)).map fun i=>x.cells[i % x.cells.size]!) dK jg (by rw[hrm];exact(hr C).cells.repeat len) (hzc.repeat len) hf;refine⟨r,ys,oY,pP,by simpa[ZQ]using qK,?_,?_⟩
    ·have yB:¬(16777216<len*sz):=by omega
     by_cases h0:len*sz=0
     ·have X9:len=0:=by rcases Nat.mul_eq_zero.1 h0 with h|h;exact h;exact absurd h jh
      subst X9;have r0:Array.range 0= #[]:=rfl;simp[r0]at mg;simp[execOp,ho,Instr.buildSlice,Ak he hu,AM he XA,r0,mg,newRow,World.VN]
     ·rw[ZQ]at mg;have X9:len≠0:=fun e=>h0 (by simp[e]);simp[execOp,ho,Instr.buildSlice,Ak he hu,AM he XA,yB,h0,X9,jh,hx,ZQ,mg,newRow,World.VN]
    ·cases hl:Nat.beq len 0 with
     |true=>rw[hl]at h;cases h;exact .inl ⟨Qb hl,rfl⟩
     |false=>rw[hl]at h;cases h;exact .inr ⟨fun e=>by subst e;simp at hl,rfl⟩
   refine⟨fun v h=>?_,fun ob g h=>?_⟩
   ·obtain⟨r,ys,h1,h2,h3,h4,h5⟩:=main _ h;rcases h5 with⟨rfl,h5⟩|⟨_,h5⟩
    ·cases h5;exact⟨_,_,_,h4,KM hS _,.Ca _ (.some (.inr rfl))⟩
    ·cases h5
   ·obtain⟨r,ys,h1,h2,h3,h4,h5⟩:=main _ h;rcases h5 with⟨rfl,h5⟩|⟨X9,h5⟩
    ·cases h5
    ·cases h5;exact⟨_,_,_,h4,EI hS h1 (ex:=[]) (by simp) h2 e false (fun _=>rfl),Fa (cap:=some len) ⟨rfl,Nat.pos_of_ne_zero X9⟩ (Qj _)⟩
  ·exact A5
 ·exact A5
omit he in
theorem vL {o:Oper} {op:UnOp} {t:TypeId} {x:Operand} (ho:o.op= .unOp op t x):XN E P o (.pure fun T=>(Cc E x T).bind (qk op)):=by
 refine B5 (G:=fun v=>Op.unary op v) (fun ρ=>by simp[execOp,ho]) ?_;intro C w v y r hv hr;cases hv with
 |int k n=>
  cases op with
  |neg=>cases hr;exact⟨_,rfl,.int _ _⟩
  |xor=>cases hr;exact⟨_,rfl,.int _ _⟩
  |_=>simp[qk]at hr
 |bool b=>
  cases op with
  |not=>cases hr;exact⟨_,rfl,.bool _⟩
  |_=>simp[qk]at hr
 |_=>cases op<;>simp[qk]at hr
omit he in
theorem Oa {C:Cx} {ok:Bool} {v r:AV} {x:Value} (hv:VR C v x) (h:kH ok v=some r):VR C r (if ok then .tuple #[x,.bool true]else x):=by
 unfold kH at h;cases ok with
 |true=>cases h;exact .tuple (.cons hv (.cons (.bool _) .nil))
 |false=>cases h;exact hv
theorem Iq {C:Cx} {ok:Bool} {t:TypeId} {z r:AV} (hz:zeroOf E t=some z) (h:fP ok z=some r) (w:World):
 ok=true∧∃x,(zeroValue t).run P w= .ok x w∧VR C r (.tuple #[x,.bool false]):=by
 unfold fP at h;cases ok with
 |true=>
  cases h;obtain⟨x,hx,hr,_⟩:=HN he hz w;exact⟨rfl,x,hx,.tuple (.cons (hr C) (.cons (.bool _) .nil))⟩
 |false=>cases h
theorem Uf {o:Oper} {x:Operand} {xt t:TypeId} {ok:Bool} (ho:o.op= .typeAssert x xt t ok):XN E P o (eX E x t ok):=by
 unfold eX;split
 ·next want z hu hz=>
  refine B5 (G:=fun v=>Instr.typeAssert v xt t ok) (fun ρ=>by simp[execOp,ho]) ?_;intro C w v y r hv hr;cases hv with
  |iface hv'=>
   rename_i u v' y'
   simp only[kI]at hr;obtain⟨hm,vM,hr⟩:=Qa.1 hr;unfold iz at vM;cases hi:E.tys.get u with
   |none=>rw[hi]at vM;cases vM
   |some i=>
   rw[hi]at vM;simp only at vM;cases mU:Instr.missingMethod want i.methods with
   |none=>
    rw[mU]at vM;cases vM;exact⟨_,by simp[Instr.typeAssert,Ak he hu,BL he hi,mU],Oa (.iface hv') hr⟩
   |some m=>
    rw[mU]at vM;cases vM;obtain⟨rfl,zx,yA,bN⟩:=Iq (P:=P) (C:=C) he hz hr w;exact⟨_,by simp[Instr.typeAssert,Ak he hu,BL he hi,mU,yA],bN⟩
  |C8=>
   obtain⟨rfl,zx,yA,bN⟩:=Iq (P:=P) (C:=C) he hz hr w;exact⟨_,by simp[Instr.typeAssert,Ak he hu,yA],bN⟩
  |_=>simp[kI]at hr
 ·next d z ZA hu hz=>
  refine B5 (G:=fun v=>Instr.typeAssert v xt t ok) (fun ρ=>by simp[execOp,ho]) ?_;intro C w v y r hv hr;have hd:∀ms,z=z→d≠ .interface ms:=fun ms _ e=>ZA ms (by rw[e]);cases hv with
  |iface hv'=>
   rename_i u v' y'
   simp only[eW]at hr;cases hut:Nat.beq u t with
   |true=>
    rw[hut]at hr;have:u=t:=Qb hut;subst this;refine⟨_,?_,Oa hv' hr⟩;simp only[Instr.typeAssert,Sem.run_bind,Ak he hu,Result.andThen_ok];cases d<;>first|exact absurd rfl (hd _ rfl)|simp
   |false=>
    rw[hut]at hr;have Xl:u≠t:=fun e=>by subst e;simp at hut
    obtain⟨rfl,zx,yA,bN⟩:=Iq (P:=P) (C:=C) he hz hr w;refine⟨_,?_,bN⟩;simp only[Instr.typeAssert,Sem.run_bind,Ak he hu,Result.andThen_ok];cases d<;>first|exact absurd rfl (hd _ rfl)|simp[Xl,yA]
  |C8=>
   obtain⟨rfl,zx,yA,bN⟩:=Iq (P:=P) (C:=C) he hz hr w;refine⟨_,?_,bN⟩;simp only[Instr.typeAssert,Sem.run_bind,Ak he hu,Result.andThen_ok];cases d<;>first|exact absurd rfl (hd _ rfl)|simp[yA]
  |_=>simp[eW]at hr
 ·exact A5
end
theorem Bu:∀ {l m:List UInt8},Wo l m=decide (l=m)
 | [],[]=>rfl
 | [],_::_=>by simp[Wo]
 |_::_,[]=>by simp[Wo]
 |a::l,b::m=>by
  unfold Wo;cases h:Nat.beq a.toNat b.toNat with
  |true=>
   have:a=b:=UInt8.toNat_inj.1 (Qb h);subst this;simp[Bu]
  |false=>
   have:a≠b:=fun e=>by subst e;simp at h
   simp[this]
theorem LQ:∀ {l m:List UInt8},bl l m=Op.bytesLess l m
 | [],[]=>rfl
 |_::_,[]=>rfl
 | [],_::_=>rfl
 |a::l,b::m=>by
  unfold bl Op.bytesLess;rw[LQ (l:=l)];cases h1:Nat.blt a.toNat b.toNat with
  |true=>
   have:a<b:=UInt8.lt_iff_toNat_lt.2 (by simpa[Nat.blt_eq]using h1);simp[this]
  |false=>
   have hn:¬a<b:=fun C6=>by
    have:Nat.blt a.toNat b.toNat=true:=by simpa[Nat.blt_eq]using UInt8.lt_iff_toNat_lt.1 C6
    rw[this]at h1;cases h1
   cases h2:Nat.beq a.toNat b.toNat with
   |true=>
    have:a=b:=UInt8.toNat_inj.1 (Qb h2);subst this;simp
   |false=>
    have:a≠b:=fun e=>by subst e;simp at h2
    simp[hn,this]
section
variable {E : Env} {P : Program}
theorem vN {op:BinOp} {f:IntKind→Int→Int→Option AV} (hf:lS op=some f) {C:Cx} {k:IntKind} {a b:Int} {r:AV} (h:f k a b=some r) (t:TypeId) (w:World):
 ∃z,(binOp op t (.int k a) (.int k b)).run P w= .ok z w∧VR C r z:=by
 cases op<;>simp only[lS,Option.some.injEq]at hf<;>cases hf
 case quo=>
  simp only[oR]at h;split at h
  ·cases h
  ·next hb=>cases h;exact⟨_,by simp[binOp,Op.intDiv,hb],.int _ _⟩
 case rem=>
  simp only[oS]at h;split at h
  ·cases h
  ·next hb=>cases h;exact⟨_,by simp[binOp,Op.intDiv,hb],.int _ _⟩
 case eql=>cases h;refine⟨_,?_,.bool _⟩;simp only[binOp,ne_eq,not_true_eq_false,if_false];rfl
 case neq=>cases h;refine⟨_,?_,.bool _⟩;simp only[binOp,ne_eq,not_true_eq_false,if_false];rfl
 case lss=>cases h;refine⟨_,?_,.bool _⟩;simp only[binOp,ne_eq,not_true_eq_false,if_false];rfl
 case leq=>cases h;refine⟨_,?_,.bool _⟩;simp only[binOp,ne_eq,not_true_eq_false,if_false];rfl
 case gtr=>cases h;refine⟨_,?_,.bool _⟩;simp only[binOp,ne_eq,not_true_eq_false,if_false];rfl
 case geq=>cases h;refine⟨_,?_,.bool _⟩;simp only[binOp,ne_eq,not_true_eq_false,if_false];rfl
 all_goals cases h;refine⟨_,?_,.int _ _⟩;simp only[binOp,ne_eq,not_true_eq_false,if_false];rfl
theorem vO {op:BinOp} {f:List UInt8→List UInt8→Option AV} (hf:qh op=some f) {C:Cx} {a b:ByteArray} {r:AV} (h:f a.data.toList b.data.toList=some r) (t:TypeId) (w:World):
 ∃z,(binOp op t (.string a) (.string b)).run P w= .ok z w∧VR C r z:=by
 cases op<;>simp only[qh,Option.some.injEq]at hf<;>cases hf
 case add=>
  dsimp only at h;cases hb:Nat.ble (W6 a.data.toList+W6 b.data.toList) 4294967296 with
  |false=>rw[hb]at h;cases h
  |true=>
   rw[hb]at h;cases h;have:=Qc hb;simp only[D1,Array.length_toList]at this;have e1:a.size=a.data.size:=rfl;have e2:b.size=b.data.size:=rfl;have hm:¬(((a.size+b.size:Nat):Int)>IntKind.i64.max):=by
    have:IntKind.i64.max=9223372036854775807:=by decide
    rw[this];omega
   refine⟨.string (a++b),?_,.str (by simp)⟩;simp only[binOp,Op.stringOp,hm,if_false,Sem.run_pure]
 all_goals
  cases h;refine⟨_,?_,.bool _⟩;have hd:(a.data==b.data)=decide (a.data=b.data):=by rw[Bool.eq_iff_iff];simp
  simp[binOp,Op.stringOp,ByteArray.toList_eq,Bu,LQ,hd]
theorem Km {op:BinOp} {t:TypeId} {x y:Operand} {k j:IntKind} {a b:Int} (w:World):(eqGuard op t x y (.int k a) (.int j b)).run P w= .ok () w:=by
 unfold eqGuard;split<;>rfl
theorem UJ {op:BinOp} {t:TypeId} {x y:Operand} {a b:ByteArray} (w:World):(eqGuard op t x y (.string a) (.string b)).run P w= .ok () w:=by
 unfold eqGuard;split<;>rfl
end
section
variable {E : Env} {P : Program}
theorem BD {t:TypeId} {d:TypeDesc} (h:Ys E t=some d):C7 E t=some d∧Ze d=true:=by
 unfold Ys at h;split at h
 ·next d' hu=>
  cases hd:Ze d' with
  |true=>rw[hd]at h;cases h;exact⟨hu,hd⟩
  |false=>rw[hd]at h;cases h
 ·cases h
variable (he : CN E P)
include he
theorem Nm {t:TypeId} {d:TypeDesc} (h:Ys E t=some d):isAgg E t=some false:=by
 obtain⟨hu,hd⟩:=BD h;unfold isAgg;rw[hu];cases d<;>first|rfl|cases hd
theorem Oo {d:TypeDesc} {t:TypeId} (hu:C7 E t=some d) {C:Cx} {a b:AV} {x y:Value} (ha:VR C a x) (hb:VR C b y) {r:Bool} (h:oV d a b=some r) (n:Nat) (w:World):
 (Op.equalIn (n+1) t x y).run P w= .ok r w:=by
 unfold oV at h;split at h
 ·cases ha;cases hb;cases h;simp only[Op.equalIn,Sem.run_bind,Ak he hu,Result.andThen_ok,Sem.run_pure];rename_i p q
  cases p<;>cases q<;>rfl
 ·cases ha;cases hb;split at h
  ·next hk=>
   cases h;subst hk;simp only[Op.equalIn,Sem.run_bind,Ak he hu,Result.andThen_ok,if_true,Sem.run_pure];rfl
  ·cases h
 ·cases ha;cases hb;cases h;rename_i l1 l2 s1 h1 s2 h2
  subst h1;subst h2;rw[run_equalIn_string w n t s1 s2 (Ed he hu),ByteArray.toList_eq,ByteArray.toList_eq,Bu]
  congr 1
  rw[Bool.eq_iff_iff];simp
 ·cases h
omit he in
theorem UY {d:TypeDesc} {a b:AV} {r:Bool} (h:oV d a b=some r):(r=true↔a=b)∧ak a=true∧ak b=true∧okD d a=true∧okD d b=true:=by
 unfold oV at h;split at h
 ·cases h;rename_i p q
  refine⟨?_,rfl,rfl,rfl,rfl⟩;cases p<;>cases q<;>simp
 ·next k j p q=>
  split at h
  ·next hk=>cases h;subst hk;exact⟨by simp,rfl,rfl,rfl,rfl⟩
  ·cases h
 ·cases h;refine⟨?_,rfl,rfl,rfl,rfl⟩;rw[Bu];simp
 ·cases h
omit he in
theorem FV:∀ {l:List TypeDesc} {a:List AV},jA l a=true→a.all ak=true∧a.length=l.length
 | [],[],_=>⟨rfl,rfl⟩
 | [],_::_,h=>by simp[jA]at h
 |_::_,[],h=>by simp[jA]at h
 |d::l,a::x,h=>by
  simp only[jA,Qf]at h;obtain⟨h1,h2⟩:=FV h.2;refine⟨?_,by simp[h2]⟩;rw[List.all_cons,h1,Bool.and_true];cases d<;>cases a<;>first|rfl|simp[okD]at h
omit he in
theorem Sj {kd:Kd} {k:AV} (h:bU kd k=true):eO k=true:=by
 cases kd with
 |one d=>cases d<;>cases k<;>first|rfl|simp[bU,okD]at h
 |flat l=>cases k<;>first|(simp[bU]at h;done)|exact(FV h).1
omit he in
theorem GY:∀ {fs:List Field} {i:Nat} {l:List TypeDesc},dZ E fs i=some l→l.length=fs.length∧
 ∀j f,fs[j]?=some f→∃d,l[j]?=some d∧f.offset=i+j∧f.name≠ "_" ∧Ys E f.type=some d
 | [],i,l,h=>by cases h;exact⟨rfl,fun j f h=>by simp at h⟩
 |g::fs,i,l,h=>by
  simp only[dZ]at h;cases hb:(Nat.beq g.offset i&& !(g.name== "_"))with
  |false=>rw[hb]at h;cases h
  |true=>
  rw[hb]at h;simp only[Qf,Bool.not_eq_true',beq_eq_false_iff_ne]at hb;obtain⟨d,hd,h⟩:=Qa.1 h;obtain⟨r,hr,h⟩:=Qa.1 h;cases h;obtain⟨h1,h2⟩:=GY hr;refine⟨by simp[h1],fun j f hf=>?_⟩;cases j with
  |zero=>simp at hf;subst hf;exact⟨d,rfl,Qb hb.1,hb.2,hd⟩
  |succ j=>
   obtain⟨d',a1,a2,a3,a4⟩:=h2 j f (by simpa using hf);exact⟨d',by simpa using a1,by omega,a3,a4⟩
theorem Eg {t:TypeId} {d:TypeDesc} (hs:Ys E t=some d) {C:Cx} {aa:List AV} {xs:Array Value} (hv:VS C aa xs.toList) {i:Nat} {a:AV} (hi:aa[i]?=some a) (w:World):
 ∃x,(part t xs i).run P w= .ok x w∧VR C a x:=
 Eu (P:=P) he (Nm he hs) hv (by rw[EP];exact hi) w
theorem Kv {C:Cx} {aa bb:List AV} {xs ys:Array Value} (ha:VS C aa xs.toList) (hb:VS C bb ys.toList) (n:Nat) (w:World):
 ∀ {fs:List Field} {i:Nat} {l:List TypeDesc} {r:Bool},dZ E fs i=some l→YT l (aa.drop i) (bb.drop i)=some r→(Op.eqFields (n+1) xs ys fs).run P w= .ok r w
 | [],i,l,r,hl,h=>by
  cases hl;generalize aa.drop i=p at h;generalize bb.drop i=q at h;cases p<;>cases q<;>simp[YT]at h
  subst h;rfl
 |f::fs,i,l,r,hl,h=>by
  have hg:=(GY hl).2 0 f rfl;simp only[dZ]at hl;cases hbq:(Nat.beq f.offset i&& !(f.name== "_"))with
  |false=>rw[hbq]at hl;cases hl
  |true=>
  rw[hbq]at hl;obtain⟨d,hd,hl⟩:=Qa.1 hl;obtain⟨l',hr,hl⟩:=Qa.1 hl;cases hl;obtain⟨d',e1,hoff,qL,qM⟩:=hg;simp at e1;subst e1;cases hp:aa.drop i with
  |nil=>rw[hp]at h;simp[YT]at h
  |cons a p=>
  cases hq:bb.drop i with
  |nil=>rw[hp,hq]at h;simp[YT]at h
  |cons b q=>
  rw[hp,hq]at h;simp only[YT]at h;obtain⟨v,hv,h⟩:=Qa.1 h;have ga:aa[i]?=some a:=by have:=congrArg (·[0]?) hp;simpa using this
  have gb:bb[i]?=some b:=by have:=congrArg (·[0]?) hq;simpa using this
  obtain⟨x,hx,Yq⟩:=Eg (P:=P) he qM ha ga w;obtain⟨y,hy,dL⟩:=Eg (P:=P) he qM hb gb w;have heq:=Oo (P:=P) he (BD qM).1 Yq dL hv n w;have h0:f.offset=i:=by simpa using hoff
  simp only[Op.eqFields,qL,ne_eq,not_false_eq_true,if_true,h0,Sem.run_bind,hx,hy,heq,Result.andThen_ok];cases v with
  |false=>cases h;rfl
  |true=>
   have e1:p=aa.drop (i+1):=by rw[←List.drop_drop,hp];rfl
   have e2:q=bb.drop (i+1):=by rw[←List.drop_drop,hq];rfl
   subst e1;subst e2;simpa using Kv ha hb n w hr h
theorem LM {e:TypeId} {d:TypeDesc} (hs:Ys E e=some d) {C:Cx} {aa bb:List AV} {xs ys:Array Value} (ha:VS C aa xs.toList) (hb:VS C bb ys.toList) (n:Nat) (w:World):
 ∀(m i:Nat) {r:Bool},YT (rep d m) (aa.drop i) (bb.drop i)=some r→(Op.eqItems (n+1) e 1 xs ys (List.range' i m)).run P w= .ok r w
 |0,i,r,h=>by
  generalize aa.drop i=p at h;generalize bb.drop i=q at h;cases p<;>cases q<;>simp[YT,rep]at h
  subst h;rfl
 |m+1,i,r,h=>by
  cases hp:aa.drop i with
  |nil=>rw[hp]at h;simp[YT,rep]at h
  |cons a p=>
  cases hq:bb.drop i with
  |nil=>rw[hp,hq]at h;simp[YT,rep]at h
  |cons b q=>
  rw[hp,hq]at h;simp only[rep,YT]at h;obtain⟨v,hv,h⟩:=Qa.1 h;have ga:aa[i]?=some a:=by have:=congrArg (·[0]?) hp;simpa using this
  have gb:bb[i]?=some b:=by have:=congrArg (·[0]?) hq;simpa using this
  obtain⟨x,hx,Yq⟩:=Eg (P:=P) he hs ha ga w;obtain⟨y,hy,dL⟩:=Eg (P:=P) he hs hb gb w;have heq:=Oo (P:=P) he (BD hs).1 Yq dL hv n w;simp only[List.range'_succ,Op.eqItems,Nat.mul_one,Sem.run_bind,hx,hy,heq,Result.andThen_ok];cases v with
  |false=>cases h;rfl
  |true=>
   have e1:p=aa.drop (i+1):=by rw[←List.drop_drop,hp];rfl
   have e2:q=bb.drop (i+1):=by rw[←List.drop_drop,hq];rfl
   subst e1;subst e2;simpa using LM hs ha hb n w m (i+1) h
omit he in
theorem FD {t:TypeId} {kd:Kd} (h:Y9 E t=some kd):
 (∃fs l,C7 E t=some (.struct fs)∧dZ E fs.toList 0=some l∧E.plain t=true∧kd= .flat l)∨
 (∃n e d,C7 E t=some (.array n e)∧Ys E e=some d∧Am.sizeOf E e=some 1∧kd= .flat (rep d n))∨
 (∃d,C7 E t=some d∧Ze d=true∧kd= .one d):=by
 unfold Y9 at h;split at h
 ·next fs hu=>
  cases X3:E.plain t with
  |false=>rw[X3]at h;cases h
  |true=>
  rw[X3]at h;obtain⟨l,hl,h⟩:=Qa.1 h;cases h;exact .inl ⟨fs,l,hu,hl,rfl,rfl⟩
 ·next n e hu=>
  split at h
  ·next d hd hs=>cases h;exact .inr (.inl ⟨n,e,d,hu,hd,hs,rfl⟩)
  ·cases h
 ·next d dx jq hu=>
  cases hs:Ze d with
  |true=>rw[hs]at h;cases h;exact .inr (.inr ⟨d,hu,hs,rfl⟩)
  |false=>rw[hs]at h;cases h
 ·cases h
theorem UX {t:TypeId} {kd:Kd} (hk:Y9 E t=some kd) {C:Cx} {a b:AV} {x y:Value} (ha:VR C a x) (hb:VR C b y) {r:Bool} (h:ZE kd a b=some r) (n:Nat) (w:World):
 (Op.equalIn (n+2) t x y).run P w= .ok r w:=by
 rcases FD hk with⟨fs,l,hu,hl,X3,rfl⟩|⟨m,e,d,hu,hd,hs,rfl⟩|⟨d,hu,hs,rfl⟩
 ·cases ha<;>cases hb<;>simp only[ZE]at h<;>try (cases h;done)
  rename_i a' xs hca qN b' ys kV hvb
  have hf:P.fieldsOf t=fs:=by simp[Program.fieldsOf,Ed he hu]
  rw[run_equalIn_struct w (n+1) t xs ys (by rw[hf];exact Ed he hu) (he.flat t X3),hf];exact Kv he qN hvb n w hl (by simpa using h)
 ·cases ha<;>cases hb<;>simp only[ZE]at h<;>try (cases h;done)
  rename_i a' xs hca qN b' ys kV hvb
  have hi:∃i,E.tys.get e=some i∧i.size=1:=by
   unfold Am.sizeOf at hs;cases hi:E.tys.get e with
   |none=>rw[hi]at hs;cases hs
   |some i=>rw[hi]at hs;exact⟨i,rfl,Option.some.inj hs⟩
  obtain⟨i,hi,hi1⟩:=hi;have hc:P.cellsOf e=1:=by simp[Program.cellsOf,he.ty e i hi,hi1]
  rw[run_equalIn_array w (n+1) xs ys (Ed he hu) (he.ty e i hi),hc,List.range_eq_range'];exact LM he hd qN hvb n w m 0 (by simpa using h)
 ·exact Oo he hu ha hb h (n+1) w
theorem qO {t:TypeId} {kd:Kd} (hk:Y9 E t=some kd):P.eqGuardType P.depth t=false:=by
 have qP:∃k,P.depth=k+2:=⟨_,rfl⟩
 obtain⟨k,gL⟩:=qP;rw[gL];have sc:∀(j:Nat) {u:TypeId} {d:TypeDesc},C7 E u=some d→Ze d=true→P.eqGuardType (j+1) u=false:=by
  intro j u d hu hd;simp only[Program.eqGuardType,Ed he hu];cases d<;>first|rfl|cases hd
 rcases FD hk with⟨fs,l,hu,hl,X3,rfl⟩|⟨m,e,d,hu,hd,hs,rfl⟩|⟨d,hu,hs,rfl⟩
 ·rw[Program.eqGuardType];simp only[Ed he hu];rw[←Array.any_toList];rw[List.any_eq_false];intro f hf;obtain⟨j,hj⟩:=List.getElem?_of_mem hf;obtain⟨d,_,_,_,qM⟩:=(GY hl).2 j f hj;obtain⟨h1,h2⟩:=BD qM;rw[sc k h1 h2];simp
 ·rw[Program.eqGuardType];simp only[Ed he hu];obtain⟨h1,h2⟩:=BD hd;exact sc k h1 h2
 ·exact sc (k+1) hu hs
end
section
variable {E : Env} {P : Program} (he : CN E P)
abbrev fX (op:BinOp) (t:TypeId) (x y:Operand) (a b:Value):Sem Value:=do eqGuard op t x y a b;binOp op t a b
theorem F2 {o:Oper} {op:BinOp} {t yt:TypeId} {x y:Operand} (ho:o.op= .binOp op t x y yt):∀ρ,execOp ρ o=(do pure (.value (←fX op t x y (ρ x) (ρ y)))):=by
 intro ρ;simp[execOp,ho,fX]
theorem vP {o:Oper} {op:BinOp} {t yt:TypeId} {x y:Operand} (ho:o.op= .binOp op t x y yt) {f:IntKind→Int→Int→Option AV} (hf:lS op=some f):XN E P o (XT E (lU f) x y):=by
 refine FO (F2 ho) ?_;intro C w v u p q r hv hu hr;cases hv with
 |int k a=>
  cases hu with
  |int k' b=>
   simp only[lU]at hr;split at hr
   ·next hk=>
    subst hk;obtain⟨z,hz,bN⟩:=vN (P:=P) (C:=C) hf hr t w;exact⟨z,by simp only[fX,Sem.run_bind,Km,Result.andThen_ok,hz],bN⟩
   ·cases hr
  |_=>simp[lU]at hr
 |_=>simp[lU]at hr
theorem vQ {o:Oper} {op:BinOp} {t yt:TypeId} {x y:Operand} (ho:o.op= .binOp op t x y yt) {f:List UInt8→List UInt8→Option AV} (hf:qh op=some f):XN E P o (XT E (nh f) x y):=by
 refine FO (F2 ho) ?_;intro C w v u p q r hv hu hr;cases hv with
 |str h1=>
  cases hu with
  |str h2=>
   simp only[nh]at hr;subst h1;subst h2;obtain⟨z,hz,bN⟩:=vO (P:=P) (C:=C) hf hr t w;exact⟨z,by simp only[fX,Sem.run_bind,UJ,Result.andThen_ok,hz],bN⟩
  |_=>simp[nh]at hr
 |_=>simp[nh]at hr
theorem yC {o:Oper} {op:BinOp} {t yt:TypeId} {x y:Operand} (ho:o.op= .binOp op t x y yt) (XX:op= .shl∨op= .shr):XN E P o (XT E (gr (if op= .shl then zt else oU)) x y):=by
 refine FO (F2 ho) ?_;intro C w v u p q r hv hu hr;cases hv with
 |int k a=>
  cases hu with
  |int k' b=>
   simp only[gr]at hr;rcases XX with rfl|rfl
   ·simp only[if_true,zt]at hr;split at hr
    ·cases hr
    ·next hb=>cases hr;exact⟨_,by simp only[fX,Sem.run_bind,Km,Result.andThen_ok,binOp,Op.shift,hb,if_false];rfl,.int _ _⟩
   ·simp only[reduceCtorEq,if_false,oU]at hr;split at hr
    ·cases hr
    ·next hb=>cases hr;exact⟨_,by simp only[fX,Sem.run_bind,Km,Result.andThen_ok,binOp,Op.shift,hb,if_false];rfl,.int _ _⟩
  |_=>simp[gr]at hr
 |_=>simp[gr]at hr
def aw:Value→Value→Bool
 | .int _ _,.int _ _=>false
 | .float _ _,_=>false
 | .complex _ _ _,_=>false
 | .string _,.string _=>false
 | .nilIface,.nilIface=>false
 | .agg _,.agg _=>false
 |_,_=>true
theorem Gc {op:BinOp} {t:TypeId} {x y:Operand} {a b:Value} (h:aw a b=true) (w:World):(eqGuard op t x y a b).run P w= .ok () w:=by
 unfold eqGuard;split
 all_goals first|rfl|(cases a<;>cases b<;>first|rfl|cases h)
theorem Rk {neg:Bool} {t:TypeId} {a b:Value} (h:aw a b=true) {r:Bool} {w:World} (he:(Op.equal t a b).run P w= .ok r w):
 (binOp (if neg then .neq else .eql) t a b).run P w= .ok (.bool (bif neg then !r else r)) w:=by
 cases neg<;>cases a<;>cases b<;>first|(cases h;done)|(simp[binOp,he];done)
theorem Ju {C:Cx} {neg:Bool} {o:Option Bool} {r:AV} (h:WE neg o=some r):∃b,o=some b∧VR C r (.bool (bif neg then !b else b)):=by
 unfold WE at h;split at h
 ·cases h;exact⟨_,rfl,.bool _⟩
 ·cases h
theorem QD {o:Oper} {neg:Bool} {t yt:TypeId} {x y:Operand} (ho:o.op= .binOp (if neg then .neq else .eql) t x y yt) {f:AV→AV→Option Bool}
 (h:∀(C:Cx) (w:World) a b p q r,VR C a p→VR C b q→f a b=some r→aw p q=true∧(Op.equal t p q).run P w= .ok r w):
 XN E P o (XT E (fun a b=>WE neg (f a b)) x y):=by
 refine FO (F2 ho) ?_;intro C w v u p q r hv hu hr;obtain⟨b,hb,jP⟩:=Ju (C:=C) hr;obtain⟨h1,h2⟩:=h C w v u p q b hv hu hb;exact⟨_,by simp only[fX,Sem.run_bind,Gc h1,Result.andThen_ok,Rk h1 h2],jP⟩
theorem Dn {t:TypeId} {a b:Value} {r:Bool} {w:World} (h:∀n,(Op.equalIn (n+1) t a b).run P w= .ok r w):(Op.equal t a b).run P w= .ok r w:=h 9999
section steps
variable {t : TypeId} (n : Nat) (w : World)
include he
theorem vR {e:TypeId} (hu:C7 E t=some (.pointer e)) (b:Option Addr):(Op.equalIn (n+1) t (.pointer none) (.pointer b)).run P w= .ok b.isNone w:=by
 simp only[Op.equalIn,Sem.run_bind,Ak he hu,Result.andThen_ok,Sem.run_pure]
theorem vS {e:TypeId} (hu:C7 E t=some (.pointer e)) (a:Addr):(Op.equalIn (n+1) t (.pointer (some a)) (.pointer none)).run P w= .ok false w:=by
 simp only[Op.equalIn,Sem.run_bind,Ak he hu,Result.andThen_ok,Sem.run_pure]
theorem U4 {e:TypeId} (hu:C7 E t=some (.pointer e)) {k:Nat} (hs:Am.sizeOf E e=some (k+1)) {a b:Addr} {r:Bool} (h:(sameAddr a b).run P w= .ok r w):
 (Op.equalIn (n+1) t (.pointer (some a)) (.pointer (some b))).run P w= .ok r w:=by
 simp only[Op.equalIn,Sem.run_bind,Ak he hu,AM he hs,Result.andThen_ok,ne_eq,Nat.succ_ne_zero,not_false_eq_true,if_true,h]
theorem vT {k e:TypeId} (hu:C7 E t=some (.map k e)) (b:Option Nat):(Op.equalIn (n+1) t (.map none) (.map b)).run P w= .ok b.isNone w:=by
 simp only[Op.equalIn,Sem.run_bind,Ak he hu,Result.andThen_ok,Sem.run_pure]
theorem vU {k e:TypeId} (hu:C7 E t=some (.map k e)) (a:Nat):(Op.equalIn (n+1) t (.map (some a)) (.map none)).run P w= .ok false w:=by
 simp only[Op.equalIn,Sem.run_bind,Ak he hu,Result.andThen_ok,Sem.run_pure]
theorem zB {ps rs:Array TypeId} {v:Bool} (hu:C7 E t=some (.func ps rs v)):(Op.equalIn (n+1) t .nilFunc .nilFunc).run P w= .ok true w:=by
 simp only[Op.equalIn,Sem.run_bind,Ak he hu,Result.andThen_ok,Sem.run_pure]
theorem zC {ps rs:Array TypeId} {v:Bool} (hu:C7 E t=some (.func ps rs v)) (f:Fn) (a b:Array Value):(Op.equalIn (n+1) t .nilFunc (.func f a b)).run P w= .ok false w:=by
 simp only[Op.equalIn,Sem.run_bind,Ak he hu,Result.andThen_ok,Sem.run_pure]
theorem zD {ps rs:Array TypeId} {v:Bool} (hu:C7 E t=some (.func ps rs v)) (f:Fn) (a b:Array Value):(Op.equalIn (n+1) t (.func f a b) .nilFunc).run P w= .ok false w:=by
 simp only[Op.equalIn,Sem.run_bind,Ak he hu,Result.andThen_ok,Sem.run_pure]
theorem zE {ms:Array (String×TypeId)} (hu:C7 E t=some (.interface ms)):(Op.equalIn (n+1) t .nilIface .nilIface).run P w= .ok true w:=by
 simp only[Op.equalIn,Sem.run_bind,Ak he hu,Result.andThen_ok,Sem.run_pure]
theorem zF {ms:Array (String×TypeId)} (hu:C7 E t=some (.interface ms)) (u:TypeId) (a:Value):(Op.equalIn (n+1) t .nilIface (.iface u a)).run P w= .ok false w:=by
 simp only[Op.equalIn,Sem.run_bind,Ak he hu,Result.andThen_ok,Sem.run_pure]
theorem zG {ms:Array (String×TypeId)} (hu:C7 E t=some (.interface ms)) (u:TypeId) (a:Value):(Op.equalIn (n+1) t (.iface u a) .nilIface).run P w= .ok false w:=by
 simp only[Op.equalIn,Sem.run_bind,Ak he hu,Result.andThen_ok,Sem.run_pure]
theorem zH {ms:Array (String×TypeId)} (hu:C7 E t=some (.interface ms)) {u v:TypeId} (h:u≠v) (a b:Value):(Op.equalIn (n+1) t (.iface u a) (.iface v b)).run P w= .ok false w:=by
 simp only[Op.equalIn,Sem.run_bind,Ak he hu,Result.andThen_ok,ne_eq,h,not_false_eq_true,if_true,Sem.run_pure]
theorem zI {ms:Array (String×TypeId)} (hu:C7 E t=some (.interface ms)) {u:TypeId} {i:TypeInfo} (hi:E.tys.get u=some i) (hc:i.comparable=true) {a b:Value} {r:Bool}
 (h:(Op.equalIn n u a b).run P w= .ok r w):(Op.equalIn (n+1) t (.iface u a) (.iface u b)).run P w= .ok r w:=by
 simp only[Op.equalIn,Sem.run_bind,Ak he hu,Result.andThen_ok,ne_eq,not_true_eq_false,if_false,BL he hi,hc,Bool.not_true,Bool.false_eq_true,h]
end steps
include he
theorem Uc {o:Oper} {neg:Bool} {t yt:TypeId} {x y:Operand} (ho:o.op= .binOp (if neg then .neq else .eql) t x y yt) (hu:C7 E t=some .bool):
 XN E P o (XT E (fun a b=>WE neg (oV .bool a b)) x y):=by
 refine QD ho ?_;intro C w a b p q r ha hb h;have heq:=Oo (P:=P) he hu ha hb h 9999 w;refine⟨?_,heq⟩;unfold oV at h;split at h
 ·cases ha;cases hb;rfl
 ·next k j p q e=>cases e
 ·next e=>cases e
 ·cases h
theorem Ub {o:Oper} {neg:Bool} {t yt:TypeId} {x y:Operand} (ho:o.op= .binOp (if neg then .neq else .eql) t x y yt) {ps rs:Array TypeId} {v:Bool} (hu:C7 E t=some (.func ps rs v)):
 XN E P o (XT E (fun a b=>WE neg (nj a b)) x y):=by
 refine QD ho ?_;intro C w a b p q r ha hb h;unfold nj at h;split at h<;>first|(cases h;done)|skip
 ·cases ha;cases hb;cases h;exact⟨rfl,Dn fun n=>zB he n w hu⟩
 ·cases ha;cases h;cases hb<;>exact⟨rfl,Dn fun n=>zC he n w hu _ _ _⟩
 ·cases hb;cases h;cases ha<;>exact⟨rfl,Dn fun n=>zD he n w hu _ _ _⟩
theorem qQ {o:Oper} {neg:Bool} {t yt:TypeId} {x y:Operand} (ho:o.op= .binOp (if neg then .neq else .eql) t x y yt) {k e:TypeId} (hu:C7 E t=some (.map k e)):
 XN E P o (XT E (fun a b=>WE neg (qj a b)) x y):=by
 refine QD ho ?_;intro C w a b p q r ha hb h;unfold qj at h;split at h<;>first|(cases h;done)|skip
 all_goals
  cases ha;cases hb;cases h;first
   |exact⟨rfl,Dn fun n=>vT he n w hu _⟩
   |exact⟨rfl,Dn fun n=>vU he n w hu _⟩
theorem QZ {t e:TypeId} (hu:C7 E t=some (.pointer e)) {C:Cx} {w:World} {a b:AV} {p q:Value} {r:Bool} (ha:VR C a p) (hb:VR C b q) (h:jB a b=some r):
 aw p q=true∧(Op.equal t p q).run P w= .ok r w:=by
 unfold jB at h;split at h<;>first|(cases h;done)|skip
 all_goals
  cases ha;cases hb;cases h;first
   |exact⟨rfl,Dn fun n=>vR he n w hu _⟩
   |exact⟨rfl,Dn fun n=>vS he n w hu _⟩
theorem qR {o:Oper} {neg:Bool} {t yt:TypeId} {x y:Operand} (ho:o.op= .binOp (if neg then .neq else .eql) t x y yt) {e:TypeId} (hu:C7 E t=some (.pointer e)):
 XN E P o (XT E (fun a b=>WE neg (jB a b)) x y):=
 QD ho fun _ _ _ _ _ _ _ ha hb h=>QZ he hu ha hb h
omit he in
theorem On {s:St} {a b:AV} {r:Bool} (h:cp s a b=some r):(∃b1 i b2 j,a= .ptr b1 i∧b= .ptr b2 j)∨jB a b=some r:=by
 unfold cp at h;split at h
 ·exact .inl ⟨_,_,_,_,rfl,rfl⟩
 ·exact .inr h
theorem UW {t e:TypeId} {n:Nat} (hu:C7 E t=some (.pointer e)) (hs:Am.sizeOf E e=some (n+1)) {C:Cx} {S:St} {w:World} (hS:Wn C S w) {b1 i b2 j:Nat} {p q:Value} {b:Bool}
 (qS:VR C (.ptr b1 i) p) (yD:VR C (.ptr b2 j) q) (hb:cp S (.ptr b1 i) (.ptr b2 j)=some b):aw p q=true∧(Op.equal t p q).run P w= .ok b w:=by
 cases qS with
 |ptr dx=>
 cases yD with
 |ptr jq=>
 refine⟨rfl,?_⟩;simp only[cp]at hb;cases pR:Nat.beq b1 b2 with
 |true=>
  rw[pR]at hb;have:b1=b2:=Qb pR;subst this;cases hb;have:(sameAddr ⟨(C.pl b1).Cn,(C.pl b1).base+i,none⟩ ⟨(C.pl b1).Cn,(C.pl b1).base+j,none⟩).run P w= .ok (Nat.beq i j) w:=by
   simp only[sameAddr,beq_self_eq_true,if_true,Sem.run_pure]
   congr 1
   rw[Bool.eq_iff_iff];simp
  exact Dn fun n=>U4 he n w hu hs this
 |false=>
  rw[pR]at hb;cases hv:(isVar (S.heap.get b1)&&isVar (S.heap.get b2))with
  |false=>rw[hv]at hb;cases hb
  |true=>
   rw[hv]at hb;cases hb;simp only[Qf]at hv;have var:∀k,isVar (S.heap.get k)=true→∃o c e',S.heap.get k=some o∧w.heap[(C.pl k).Cn]?=some (.cells c e' (0,0)):=by
    intro k hk;cases hgk:S.heap.get k with
    |none=>rw[hgk]at hk;cases hk
    |some o=>
     rw[hgk]at hk;cases o with
     |cells cs e' part=>
      have hpf:part=false:=by simpa[isVar]using hk
      subst hpf;obtain⟨_,x',oz,hr⟩:=hS.live k _ hgk;cases hr with
      |cells hv ha XA VX hf hp=>obtain⟨_,_,rfl⟩:=hp rfl;exact⟨_,_,_,rfl,oz⟩
     |_=>cases hk
   obtain⟨o1,c1,e1,g1,m1⟩:=var b1 hv.1;obtain⟨o2,c2,e2,g2,m2⟩:=var b2 hv.2;have Xl:(C.pl b1).Cn≠(C.pl b2).Cn:=fun e=>by
    have:=hS.inj b1 b2 o1 o2 g1 g2 e;subst this;simp at pR
   have:=run_sameAddr_other (P:=P) w (a:=⟨(C.pl b1).Cn,(C.pl b1).base+i,none⟩) (b:=⟨(C.pl b2).Cn,(C.pl b2).base+j,none⟩) (fun e=>Xl (congrArg Addr.block e)) m1 m2;exact Dn fun n=>U4 he n w hu hs this
theorem TZ {o:Oper} {neg:Bool} {t yt:TypeId} {x y:Operand} (ho:o.op= .binOp (if neg then .neq else .eql) t x y yt) {e:TypeId} {n:Nat} (hu:C7 E t=some (.pointer e))
 (hs:Am.sizeOf E e=some (n+1)):XN E P o (.look fun T s=>(Cc E x T).bind fun a=>(Cc E y T).bind fun b=>WE neg (cp s a b)):=by
 intro C T a S w hg hT hS v h;obtain⟨u,eD,h⟩:=Qa.1 h;obtain⟨u2,qT,h⟩:=Qa.1 h;obtain⟨b,hb,jP⟩:=Ju (C:=C) h;have qS:=Ay hg hT eD;have yD:=Ay hg hT qT;have main:aw (a.eval x) (a.eval y)=true∧(Op.equal t (a.eval x) (a.eval y)).run P w= .ok b w:=by
  rcases On hb with⟨b1,i,b2,j,rfl,rfl⟩|h
  ·exact UW he hu hs hS qS yD hb
  ·exact QZ he hu qS yD h
 refine⟨_,?_,jP⟩;rw[F2 ho];simp only[fX,Sem.run_bind,Gc main.1,Result.andThen_ok,Rk main.1 main.2,Sem.run_pure]
theorem Ua {o:Oper} {neg:Bool} {t yt:TypeId} {x y:Operand} (ho:o.op= .binOp (if neg then .neq else .eql) t x y yt) {kd:Option Kd} (hk:kd=Y9 E t)
 (hu:(∃fs,C7 E t=some (.struct fs))∨∃n e,C7 E t=some (.array n e)):XN E P o (nZ E neg kd x y):=by
 subst hk;unfold nZ;split
 ·next kd y9=>
  refine FO (F2 ho) ?_;intro C w v u p q r hv vh hr;obtain⟨b,hb,jP⟩:=Ju (C:=C) hr;have heq:=UX (P:=P) he y9 hv vh hb 9998 w;have hagg:∃xs ys,p= .agg xs∧q= .agg ys:=by
   rcases FD y9 with⟨fs,l,_,_,_,rfl⟩|⟨m,e,d,_,_,_,rfl⟩|⟨d,hd,hs,rfl⟩
   ·cases hv<;>cases vh<;>simp only[ZE]at hb<;>first|(cases hb;done)|exact⟨_,_,rfl,rfl⟩
   ·cases hv<;>cases vh<;>simp only[ZE]at hb<;>first|(cases hb;done)|exact⟨_,_,rfl,rfl⟩
   ·exfalso;rcases hu with⟨fs,hu⟩|⟨n,e,hu⟩<;>rw[hu]at hd<;>cases hd<;>cases hs
  obtain⟨xs,ys,rfl,rfl⟩:=hagg;refine⟨_,?_,jP⟩;simp only[fX,Sem.run_bind,run_eqGuard_agg w _ t x y xs ys (qO he y9),Result.andThen_ok];have heq':(Op.equal t (.agg xs) (.agg ys)).run P w= .ok b w:=heq;cases neg
  ·simp[binOp,heq']
  ·simp[binOp,heq']
 ·exact A5
theorem Sf {o:Oper} {neg:Bool} {t yt:TypeId} {x y:Operand} (ho:o.op= .binOp (if neg then .neq else .eql) t x y yt) {ms:Array (String×TypeId)} (hu:C7 E t=some (.interface ms)):
 XN E P o (XT E (fun a b=>WE neg (eK E (isConst x||isConst y) a b)) x y):=by
 refine FO (F2 ho) ?_;intro C w v u p q r hv vh hr;obtain⟨b,hb,jP⟩:=Ju (C:=C) hr;have fin:aw p q=true→(Op.equal t p q).run P w= .ok b w→∃z,(fX (if neg then .neq else .eql) t x y p q).run P w= .ok z w∧VR C r z:=fun h1 h2=>
  ⟨_,by simp only[fX,Sem.run_bind,Gc h1,Result.andThen_ok,Rk h1 h2],jP⟩
 unfold eK at hb;split at hb
 ·cases hl:(isConst x||isConst y)with
  |false=>rw[hl]at hb;cases hb
  |true=>
   rw[hl]at hb;cases hb;cases hv;cases vh;have hg:(eqGuard (if neg then .neq else .eql) t x y .nilIface .nilIface).run P w= .ok () w:=by
    cases neg<;>cases x<;>cases y<;>first|rfl|(simp[isConst]at hl)
   refine⟨_,?_,jP⟩;simp only[fX,Sem.run_bind,hg,Result.andThen_ok];have h0:(Op.equal t .nilIface .nilIface).run P w= .ok true w:=Dn fun n=>zE he n w hu;cases neg<;>simp[binOp,h0]
 ·cases hv;cases vh;cases hb;exact fin U (Dn fun n=>zF he n w hu _ _)
 ·cases hv;cases vh;cases hb;exact fin U (Dn fun n=>zG he n w hu _ _)
 ·next t1 a1 t2 a2=>
  cases hv with
  |iface hv=>
  cases vh with
  |iface vh=>
  refine fin U ?_;cases htt:Nat.beq t1 t2 with
  |false=>
   rw[htt]at hb;cases hb;have Xl:t1≠t2:=fun e=>by subst e;simp at htt
   exact Dn fun n=>zH he n w hu Xl _ _
  |true=>
   rw[htt]at hb;have:t1=t2:=Qb htt;subst this;cases hc:cq E t1 with
   |false=>rw[hc]at hb;cases hb
   |true=>
   rw[hc]at hb;obtain⟨d,hd,hb⟩:=Qa.1 hb;unfold cq at hc;cases hi:E.tys.get t1 with
   |none=>rw[hi]at hc;cases hc
   |some i=>
    rw[hi]at hc;exact zI he 9999 w hu hi hc (Oo (P:=P) he (BD hd).1 hv vh hb 9998 w)
 ·cases hb
omit he in
theorem vV {C:Cx} {v:AV} {x:Value} (h:VR C v x) {l:List Bool} (e:vy v=some l):∃a n c,x= .slice a n c∧a.isNone∈l:=by
 cases h with
 |Ca a zA=>cases e;cases a<;>exact⟨_,_,_,rfl,by simp⟩
 |slice hd hc Yl=>cases e;exact⟨_,_,_,rfl,by simp⟩
 |Xj zA hd hc=>cases e;exact⟨_,_,_,rfl,by simp⟩
 |VT a h Yl=>cases e;cases a<;>exact⟨_,_,_,rfl,by simp⟩
 |Cd hl hm ha hv XK VX Yl=>
  rename_i Cn off len sz c cl cs ms vs
  cases cs with
  |nil=>cases e;exact⟨_,_,_,rfl,by simp⟩
  |cons q cs=>cases e;exact⟨_,_,_,rfl,by simp⟩
 |_=>simp[vy]at e
theorem qU {o:Oper} {neg:Bool} {t yt:TypeId} {x:Operand} (ho:o.op= .binOp (if neg then .neq else .eql) t x (.const (.slice none 0 0)) yt) {e:TypeId} (hu:C7 E t=some (.slice e)):
 XN E P o (.pick fun T=>(Cc E x T).bind fun a=>(vy a).bind fun l=>some (ky neg l)):=by
 intro C T a S w hg hT hS l h;obtain⟨u,eD,h⟩:=Qa.1 h;obtain⟨bs,hbs,h⟩:=Qa.1 h;cases h;obtain⟨ad,n,c,hx,XY⟩:=vV (Ay hg hT eD) hbs;have yE:∀(bs:List Bool) (b:Bool),b∈bs→(AV.bool (bif neg then !b else b))∈ky neg bs:=by
  intro bs;induction bs with
  |nil=>intro b h;cases h
  |cons q bs ih=>
   intro b h;rcases Qk.1 h with rfl|h
   ·exact Qh ..
   ·exact Qg _ (ih b h)
 refine⟨_,yE bs _ XY,_,?_,.bool _⟩;have heq:(Op.equal t (a.eval x) (a.eval (.const (.slice none 0 0)))).run P w= .ok ad.isNone w:=by
  refine Dn fun n=>?_;rw[hx];show(Op.equalIn (n+1) t _ (.slice none 0 0)).run P w=_;cases ad<;>simp only[Op.equalIn,Sem.run_bind,Ak he hu,Result.andThen_ok,Sem.run_pure]<;>rfl
 have hp:aw (a.eval x) (a.eval (.const (.slice none 0 0)))=true:=by rw[hx];rfl
 rw[F2 ho];simp only[fX,Sem.run_bind,Gc hp,Result.andThen_ok,Rk hp heq,Sem.run_pure]
theorem ok_eq {o:Oper} {neg:Bool} {t yt:TypeId} {x y:Operand} (ho:o.op= .binOp (if neg then .neq else .eql) t x y yt):XN E P o (y4 E neg t x y):=by
 unfold y4;split
 ·next hu=>exact Uc he ho hu
 ·next e hu=>
  split
  ·next n hs=>exact TZ he ho hu hs
  ·exact qR he ho hu
 ·next ms hu=>exact Sf he ho hu
 ·next ps rs v hu=>exact Ub he ho hu
 ·next k e hu=>exact qQ he ho hu
 ·next n e hu=>exact Ua he ho rfl (.inr ⟨n,e,hu⟩)
 ·next fs hu=>exact Ua he ho rfl (.inl ⟨fs,hu⟩)
 ·next e hu=>
  split
  ·exact qU he ho hu
  ·exact A5
 ·exact A5
theorem zJ {o:Oper} {op:BinOp} {t yt:TypeId} {x y:Operand} (ho:o.op= .binOp op t x y yt):XN E P o (eL E op t x y):=by
 unfold eL;split
 ·split
  ·exact yC ho (.inl U)
  ·exact yC ho (.inr U)
  ·split
   ·next f hf=>exact vP ho hf
   ·exact A5
 ·split
  ·next f hf=>exact vQ ho hf
  ·exact A5
 ·split
  ·exact ok_eq (neg:=false) he ho
  ·exact ok_eq (neg:=true) he ho
  ·exact A5
end
inductive OV (C:Cx):Option AV→Option Value→Prop where
 |none:OV C none none
 |some {v:AV} {x:Value} (h:VR C v x):OV C (some v) (some x)
section
variable {E : Env} {P : Program}
theorem ED {C:Cx} {T:Tr AV} {a:Act} (hg:Wg E C) (hT:TR C a.tmps.size T a.tmps) {x:Option Operand} {v:Option AV} (h:WI E x T=some v):OV C v (x.map a.eval):=by
 cases x with
 |none=>cases h;exact .none
 |some x=>
  simp only[WI]at h;obtain⟨u,hu,h⟩:=Qa.1 h;cases h;exact .some (Ay hg hT hu)
theorem Vs {n Y7:Nat} (h:n≤Y7) (k:IntKind) (code:BoundsCode) (w:World):(Instr.sliceBound (.int k (n:Int)) Y7 code).run P w= .ok n w:=by
 have hc:(0:Int)≤(n:Int)∧(n:Int)≤(Y7:Int):=by omega
 simp[Instr.sliceBound,asIntOf,h]
theorem BN {C:Cx} {Y7 r:Nat} {v:AV} {x:Value} (hv:VR C v x) {vz:Nat} (h:CM vz Y7 (some v)=some r) {m:Nat} (hm:Y7≤m) (code:BoundsCode) (w:World):
 (Instr.sliceBound x m code).run P w= .ok r w∧r≤Y7:=by
 simp only[CM]at h;obtain⟨n,hn,h⟩:=Qa.1 h;obtain⟨k,rfl⟩:=GS hv hn;cases hb:Nat.ble n Y7 with
 |false=>rw[hb]at h;cases h
 |true=>
  rw[hb]at h;cases h;have:=Qc hb;exact⟨Vs (by omega) k code w,this⟩
theorem GG {d m r:Nat} (h:CM d m none=some r):r=d:=by cases h;rfl
theorem Ds {C:Cx} {lo hi:Option AV} {qV qW:Option Value} (ji:OV C lo qV) (hZ:OV C hi qW) {len Y7 c h l:Nat} (hmc:Y7≤c) (Yl:len≤c)
 (h1:CM len Y7 hi=some h) (h2:CM 0 h lo=some l) (b:Bool) (w:World):
 (Instr.sliceBounds b len c qV qW none).run P w= .ok (l,h,c) w∧l≤h∧h≤c:=by
 have hh:h≤c∧∀code,(match qW with|some v=>Instr.sliceBound v c code|none=>pure len:Sem Nat).run P w= .ok h w:=by
  cases hZ with
  |none=>cases GG h1;exact⟨Yl,fun _=>rfl⟩
  |some hv=>exact⟨Nat.le_trans (BN (P:=P) hv h1 hmc .index w).2 hmc,fun code=>(BN (P:=P) hv h1 hmc code w).1⟩
 have hl:l≤h∧∀code,(match qV with|some v=>Instr.sliceBound v h code|none=>pure 0:Sem Nat).run P w= .ok l w:=by
  cases ji with
  |none=>cases GG h2;exact⟨Qo _,fun _=>rfl⟩
  |some hv=>exact⟨(BN (P:=P) hv h2 (Qj _) .index w).2,fun code=>(BN (P:=P) hv h2 (Qj _) code w).1⟩
 refine⟨?_,hl.1,hh.1⟩;have e1:=hh.2;have e2:=hl.2;unfold Instr.sliceBounds;cases hZ with
 |none=>
  cases ji with
  |none=>
   have a1:=e1 .index;have a2:=e2 .index;simp only[Sem.run_pure,Result.ok.injEq,and_true]at a1 a2;simp[a1,←a2]
  |some hv=>
   have a1:=e1 .index;simp only[Sem.run_pure,Result.ok.injEq,and_true]at a1;have a2:=e2 .sliceB;simp only at a2;subst a1;simp[a2]
 |some lH=>
  cases ji with
  |none=>
   have a2:=e2 .index;simp only[Sem.run_pure,Result.ok.injEq,and_true]at a2;have a1:=e1 (if b then .sliceAcap else .sliceAlen);simp only at a1;simp[a1,←a2]
  |some hv=>
   have a2:=e2 .sliceB;have a1:=e1 (if b then .sliceAcap else .sliceAlen);simp only at a1 a2;simp[a1,a2]
theorem Fh {C:Cx} {lo hi:Option AV} {mx:AV} {qV qW:Option Value} {zK:Value} (ji:OV C lo qV) (hZ:OV C hi qW) (vW:VR C mx zK) {len Y7 c h l m:Nat} (hmc:Y7≤c)
 (h0:CM 0 Y7 (some mx)=some m) (h1:eN m hi=some h) (h2:CM 0 h lo=some l) (b:Bool) (w:World):
 (Instr.sliceBounds b len c qV qW (some zK)).run P w= .ok (l,h,m) w∧l≤h∧h≤m∧m≤Y7:=by
 cases hZ with
 |none=>cases h1
 |some hvh=>
 simp only[eN]at h1;have a0:=fun code=>BN (P:=P) vW h0 hmc code w;have a1:=fun code=>BN (P:=P) hvh h1 (Qj _) code w;unfold Instr.sliceBounds;cases ji with
 |none=>
  cases GG h2;refine⟨?_,Qo _,(a1 .index).2,(a0 .index).2⟩;simp[(a0 (if b then .slice3Acap else .slice3Alen)).1,(a1 .slice3B).1]
 |some vk=>
  have a2:=fun code=>BN (P:=P) vk h2 (Qj _) code w;refine⟨?_,(a2 .index).2,(a1 .index).2,(a0 .index).2⟩;simp[(a0 (if b then .slice3Acap else .slice3Alen)).1,(a1 .slice3B).1,(a2 .slice3C).1]
theorem Um {C:Cx} {S:St} {w:World} (hS:Wn C S w) {b off len sz c:Nat} {cap:Option Nat} (hc:mf C b off sz cap c) {cs:List AV} (VX:VZ (S.heap.get b)=some cs):
 ZF sz off len cap cs≤c:=by
 cases cap with
 |some k=>simp only[mf]at hc;simp[ZF,hc.1]
 |none=>
  simp only[mf]at hc;simp only[ZF];have hs:Nat.beq sz 0=false:=by cases sz with|zero=>omega|succ n=>rfl
  rw[hs];obtain⟨_,x,e,fr,vs,hx,hv,ha,XA,_,_⟩:=hS.cells VX;have h1:=hv.length;have h2:=ha.le;simp only[Array.length_toList]at h2;simp only[cond_false,D1];have:(cs.length-off)≤c*sz:=by omega
  exact Nat.div_le_of_le_mul (by rw[Nat.mul_comm];exact this)
variable (he : CN E P)
include he
theorem qX {t e:TypeId} {sz:Nat} (hu:C7 E t=some (.slice e)) (XA:Am.sizeOf E e=some sz) {C:Cx} {S:St} {w:World} (hS:Wn C S w) {v r:AV} {x:Value} (hv:VR C v x)
 {lo hi mx:Option AV} {qV qW zK:Option Value} (ji:OV C lo qV) (hZ:OV C hi qW) (vW:OV C mx zK) (h:W7 S sz lo hi mx v=some r):
 ∃z,(Instr.sliceAt t x qV qW zK).run P w= .ok z w∧VR C r z:=by
 have run:∀(a:Option Addr) (n c l h m:Nat),(Instr.sliceBounds true n c qV qW zK).run P w= .ok (l,h,m) w→
  (Instr.sliceAt t (.slice a n c) qV qW zK).run P w= .ok (.slice (if m=l then a else a.map (·.add (l*sz))) (h-l) (m-l)) w:=by
  intro a n c l h m hb;simp[Instr.sliceAt,Instr.slice,Ak he hu,hb,AM he XA]
 have moved:∀ {a:Option Addr} {q:Prop} [Decidable q] {k:Nat},oX C a→oX C (if q then a else a.map (·.add k)):=by
  intro a q _ k ha ad lG;split at lG
  ·exact ha ad lG
  ·cases a with
   |none=>cases lG
   |some ad0=>
    cases lG;have:=ha ad0 rfl;unfold Addr.add;split<;>exact this
 cases hv with
 |Ca a pc=>
  simp only[W7]at h;cases vW with
  |none=>
   simp only[ql]at h;obtain⟨p,hp,h⟩:=Qa.1 h;obtain⟨q,hq,h⟩:=Qa.1 h;cases h;have gM:p=0:=by
    cases hZ with
    |none=>cases hp;rfl
    |some hv=>have:=(BN (P:=P) hv hp (Qj _) .index w).2;omega
   subst gM;obtain⟨hb,hle,_⟩:=Ds (P:=P) ji hZ (Qj 0) (Qj 0) hp hq true w;have hq0:q=0:=by omega
   subst hq0;exact⟨_,run a 0 0 0 0 0 hb,.Ca _ pc⟩
  |some iO=>
   simp only[ql]at h;obtain⟨m,hm,h⟩:=Qa.1 h;obtain⟨p,hp,h⟩:=Qa.1 h;obtain⟨q,hq,h⟩:=Qa.1 h;cases h;have lI:m=0:=by have:=(BN (P:=P) iO hm (Qj _) .index w).2;omega
   subst lI;have gM:p=0:=by
    cases hZ with
    |none=>cases hp
    |some hv=>have:=(BN (P:=P) (vz:=0) hv hp (Qj _) .index w).2;omega
   subst gM;obtain⟨hb,hle,_⟩:=Fh (P:=P) ji hZ iO (len:=0) (Qj 0) hm hp hq true w;have hq0:q=0:=by omega
   subst hq0;exact⟨_,run a 0 0 0 0 0 hb,.Ca _ pc⟩
 |slice hd hc Yl=>
  rename_i b off len Yp cap c
  simp only[W7]at h;cases eh:Nat.beq Yp sz with
  |false=>rw[eh]at h;cases h
  |true=>
  rw[eh]at h;have:Yp=sz:=Qb eh;subst this;obtain⟨cs,VX,h⟩:=Qa.1 h;have qY:=Um hS hc (len:=len) VX;generalize ZF Yp off len cap cs=Y7 at h qY;cases vW with
  |none=>
   simp only[bn]at h;obtain⟨p,hp,h⟩:=Qa.1 h;obtain⟨l,hl,h⟩:=Qa.1 h;obtain⟨hb,hle,hpc⟩:=Ds (P:=P) ji hZ qY Yl hp hl true w;refine⟨_,run _ len c l p c hb,?_⟩;cases cap with
   |some k=>
    obtain⟨rfl,z5⟩:=hc;simp only[sliceFrom,Option.some.injEq]at h;subst h;cases hkl:Nat.beq c l with
    |true=>
     have:c=l:=Qb hkl;subst this;have h0:Nat.beq c 0=false:=by cases c with|zero=>omega|succ n=>rfl
     have X3:p-c=0:=by omega
     simp only[cond_true,h0,cond_false,if_true,X3,Nat.sub_self];exact .Ca _ (.some (hS.Ww _ hd))
    |false=>
     have Xl:c≠l:=fun e=>by subst e;simp at hkl
     simp only[cond_false,Xl,if_false,Option.map_some,B7,Nat.add_assoc];exact .slice hd ⟨rfl,by omega⟩ (by omega)
   |none=>
    obtain⟨dy,ia⟩:=hc;have ei:(C.pl b).base+(off+l*Yp)+(c-l)*Yp=(C.pl b).size:=by
     rw[Nat.sub_mul];have:=Nat.mul_le_mul_right Yp (Nat.le_trans hle hpc);omega
    simp only[sliceFrom]at h;cases hlm:Nat.blt l Y7 with
    |true=>
     rw[hlm]at h;cases h;have:l<Y7:=by simpa[Nat.blt_eq]using hlm
     have Xl:c≠l:=by omega
     simp only[Xl,if_false,Option.map_some,B7,Nat.add_assoc];exact .slice hd ⟨by rw[←Nat.add_assoc]at ei⊢;exact ei,ia⟩ (by omega)
    |false=>
     rw[hlm]at h;cases gM:Nat.beq (p-l) 0 with
     |false=>rw[gM]at h;cases h
     |true=>
      rw[gM]at h;cases h;have X3:p-l=0:=Qb gM;rw[X3];by_cases Xl:c=l
      ·subst Xl;simp only[if_true,Nat.sub_self];exact .Xj (hS.Ww _ hd) hd (.inl U)
      ·simp only[Xl,if_false,Option.map_some,B7,Nat.add_assoc];exact .Xj (hS.Ww _ hd) hd (.inr ⟨rfl,ei,ia⟩)
  |some iO=>
   simp only[bn]at h;obtain⟨m,hm,h⟩:=Qa.1 h;obtain⟨p,hp,h⟩:=Qa.1 h;obtain⟨l,hl,h⟩:=Qa.1 h;obtain⟨hb,hle,hpm,mU⟩:=Fh (P:=P) ji hZ iO (len:=len) qY hm hp hl true w;refine⟨_,run _ len c l p m hb,?_⟩;cases jr:Nat.beq m l with
   |true=>
    rw[jr]at h;cases h;have:m=l:=Qb jr;subst this;have X3:p-m=0:=by omega
    simp only[if_true,X3,Nat.sub_self];exact .Ca _ (.some (hS.Ww _ hd))
   |false=>
    rw[jr]at h;cases h;have Xl:m≠l:=fun e=>by subst e;simp at jr
    simp only[Xl,if_false,Option.map_some,B7,Nat.add_assoc];exact .slice hd ⟨rfl,by omega⟩ (by omega)
 |Xj pc hd hc=>
  rename_i b off Yp a c
  simp only[W7]at h;cases eh:Nat.beq Yp sz with
  |false=>rw[eh]at h;cases h
  |true=>
  rw[eh]at h;have:Yp=sz:=Qb eh;subst this;obtain⟨cs,VX,h⟩:=Qa.1 h;simp only[ZF]at h;cases vW with
  |none=>
   simp only[bn]at h;obtain⟨p,hp,h⟩:=Qa.1 h;obtain⟨l,hl,h⟩:=Qa.1 h;have gM:p=0:=by
    cases hZ with
    |none=>cases hp;rfl
    |some hv=>have:=(BN (P:=P) hv hp (Qj _) .index w).2;omega
   subst gM;obtain⟨hb,hle,_⟩:=Ds (P:=P) ji hZ (Qo c) (Qo c) hp hl true w;have X9:l=0:=by omega
   subst X9;cases h;refine⟨_,run _ 0 c 0 0 c hb,?_⟩;have:(if c=0 then some a else Option.map (fun x=>x.add (0*Yp)) (some a))=some a:=by
    split
    ·rfl
    ·simp[Addr.add]
   rw[this];exact .Xj pc hd hc
  |some iO=>
   simp only[bn]at h;obtain⟨m,hm,h⟩:=Qa.1 h;obtain⟨p,hp,h⟩:=Qa.1 h;obtain⟨l,hl,h⟩:=Qa.1 h;obtain⟨hb,hle,hpm,mU⟩:=Fh (P:=P) ji hZ iO (len:=0) (Qo c) hm hp hl true w;obtain rfl:m=0:=by omega
   obtain rfl:p=0:=by omega
   obtain rfl:l=0:=by omega
   cases h;exact⟨_,run _ 0 c 0 0 0 hb,.Ca _ (.some pc)⟩
 |VT a h0 Yl=>
  rename_i Yp cl len c
  simp only[W7]at h;cases eh:Nat.beq Yp sz with
  |false=>rw[eh]at h;cases h
  |true=>
  rw[eh]at h;have:Yp=sz:=Qb eh;subst this;have ml:∀ {k n:Nat} {q:List AV},cut [] k n=some q→q=[]∧n=0:=by
   intro k n q hq;obtain⟨pre,post,h1,h2,h3⟩:=He hq;have:=congrArg List.length h1;simp at this;have hq0:q=[]:=List.eq_nil_of_length_eq_zero (by omega);exact⟨hq0,by rw[←h3,hq0];rfl⟩
  cases vW with
  |none=>
   simp only[cond_true,aL,db]at h;obtain⟨p,hp,h⟩:=Qa.1 h;obtain⟨l,hl,h⟩:=Qa.1 h;obtain⟨q,hq,h⟩:=Qa.1 h;cases h;obtain⟨hb,hle,hpc⟩:=Ds (P:=P) ji hZ Yl Yl hp hl true w;obtain⟨rfl,hn⟩:=ml hq;exact⟨_,run _ len c l p c hb,.VT _ hn (by omega)⟩
  |some iO=>
   simp only[cond_true,aL]at h;obtain⟨m,hm,h⟩:=Qa.1 h;obtain⟨p,hp,h⟩:=Qa.1 h;obtain⟨l,hl,h⟩:=Qa.1 h;obtain⟨hb,hle,hpm,mU⟩:=Fh (P:=P) ji hZ iO (len:=len) Yl hm hp hl true w;refine⟨_,run _ len c l p m hb,?_⟩;cases jr:Nat.beq m l with
   |true=>
    rw[jr]at h;cases h;have:m=l:=Qb jr;subst this;have X3:p-m=0:=by omega
    simp only[if_true,X3,Nat.sub_self];exact .VT _ (Nat.zero_mul _) (Qo _)
   |false=>
    rw[jr]at h;obtain⟨q,hq,h⟩:=Qa.1 h;cases h;obtain⟨rfl,hn⟩:=ml hq;exact .VT _ hn (by omega)
 |Cd X9 lI ha hv0 XK VX Yl=>
  rename_i Cn off len Yp c cl cs ms vs
  simp only[W7]at h;cases eh:Nat.beq Yp sz with
  |false=>rw[eh]at h;cases h
  |true=>
  rw[eh]at h;have:Yp=sz:=Qb eh;subst this;have made:∀ {l p m:Nat} {q:List AV},cut cs (l*Yp) ((p-l)*Yp)=some q→l≤p→p≤m→
   VR C (.Cd q (p-l) Yp cl) (.slice (if m=l then some (⟨Cn,off,none⟩:Addr)else Option.map (fun x:Addr=>x.add (l*Yp)) (some (⟨Cn,off,none⟩:Addr))) (p-l) (m-l)):=by
   intro l p m q hq h1 h2;obtain⟨y,hy,hyd,hql,hcq,_,ZZ⟩:=hv0.cut hq;by_cases h0:(p-l)*Yp=0
   ·have:q=[]:=List.eq_nil_of_length_eq_zero (by omega);subst this;exact .VT _ h0 (by omega)
   ·have Xl:m≠l:=by
     intro e;have:p-l=0:=by omega
     rw[this]at h0;simp at h0
    simp only[Xl,if_false,Option.map_some,B7];refine .Cd hql lI (vs:=y) ?_ hy ?_ (hcq VX) (by omega)
    ·obtain⟨p1,q1,e1,e2⟩:=ha;obtain⟨p2,q2,e3,e4⟩:=ZZ;exact⟨p1++p2,q2++q1,by rw[e1,e3];simp,by simp[e2,e4]⟩
    ·intro hct;obtain⟨y',mh,hyd',_⟩:=(XK hct).cut hq;rw[hyd,←hyd'];exact mh
  cases vW with
  |none=>
   simp only[cond_true,aL,db]at h;obtain⟨p,hp,h⟩:=Qa.1 h;obtain⟨l,hl,h⟩:=Qa.1 h;obtain⟨q,hq,h⟩:=Qa.1 h;cases h;obtain⟨hb,hle,hpc⟩:=Ds (P:=P) ji hZ Yl Yl hp hl true w;exact⟨_,run _ len c l p c hb,made hq hle hpc⟩
  |some iO=>
   simp only[cond_true,aL]at h;obtain⟨m,hm,h⟩:=Qa.1 h;obtain⟨p,hp,h⟩:=Qa.1 h;obtain⟨l,hl,h⟩:=Qa.1 h;obtain⟨hb,hle,hpm,mU⟩:=Fh (P:=P) ji hZ iO (len:=len) Yl hm hp hl true w;refine⟨_,run _ len c l p m hb,?_⟩;cases jr:Nat.beq m l with
   |true=>
    rw[jr,cond_true]at h;have:m=l:=Qb jr;subst this;have X3:p-m=0:=by omega
    simp only[if_true,X3,Nat.sub_self];cases hcs0:cs with
    |nil=>
     rw[hcs0]at h;cases h;exact .VT _ (Nat.zero_mul _) (Qo _)
    |cons c0 cs0=>
     rw[hcs0]at h;cases h;exact .Ca _ (by simpa using oX.some (a:=⟨Cn,off,none⟩) (hS.Xu _ _ lI))
   |false=>
    rw[jr]at h;obtain⟨q,hq,h⟩:=Qa.1 h;cases h;exact made hq hle hpm
 |_=>simp[W7]at h
end
section
variable {E : Env} {P : Program}
theorem Oj {s:ByteArray} {l h:Nat} {q:List UInt8} (hq:cut s.data.toList l (h-l)=some q) (hlh:l≤h):(s.extract l h).data.toList=q:=by
 obtain⟨pre,post,h1,h2,h3⟩:=He hq;have hs:s.data.toList.length=s.data.size:=by simp
 have hle:h≤s.data.size:=by
  have:=congrArg List.length h1;simp only[Qm]at this;omega
 have:(s.extract l h).data=s.data.extract l h:=by simp[ByteArray.data_extract]
 rw[this];rw[Array.toList_extract,h1,List.extract_eq_take_drop,←h3,←h2];simp
variable (he : CN E P)
include he
theorem ok_slice {o:Oper} {t:TypeId} {x:Operand} {lo hi mx:Option Operand} (ho:o.op= .slice t x lo hi mx):XN E P o (bo E t x lo hi mx):=by
 have hex:∀ρ,execOp ρ o=(do pure (.value (←Instr.sliceAt t (ρ x) (lo.map ρ) (hi.map ρ) (mx.map ρ)))):=fun ρ=>by simp[execOp,ho]
 unfold bo;split
 ·next hu=>
  split
  ·intro C T a S w hg hT hS v h;obtain⟨u,eD,h⟩:=Qa.1 h;obtain⟨l,hl,h⟩:=Qa.1 h;obtain⟨hh,hhh,h⟩:=Qa.1 h;have hv:=Ay hg hT eD;rw[hex];generalize a.eval x=xv at hv;cases hv with
   | @str _ q s hs=>
    simp only[aK]at h;obtain⟨h1,ek,h⟩:=Qa.1 h;obtain⟨l1,pd,h⟩:=Qa.1 h;obtain⟨r,hr,h⟩:=Qa.1 h;cases h;rw[←hs]at ek hr;have hlen:W6 s.data.toList=s.size:=by simp
    rw[hlen]at ek;obtain⟨hb,hle,_⟩:=Ds (P:=P) (ED hg hT hl) (ED hg hT hhh) (Qj s.size) (Qj s.size) ek pd false w;refine⟨.string (s.extract l1 h1),?_,.str (Oj hr hle)⟩;simp[Instr.sliceAt,Instr.slice,Ak he hu,hb]
   |_=>simp[aK]at h
  ·exact A5
 ·next e hu=>
  split
  ·next sz XA=>
   intro C T a S w hg hT hS v h;obtain⟨u,eD,h⟩:=Qa.1 h;obtain⟨l,hl,h⟩:=Qa.1 h;obtain⟨hh,hhh,h⟩:=Qa.1 h;obtain⟨m,hm,h⟩:=Qa.1 h;obtain⟨z,hz,bN⟩:=qX (P:=P) he hu XA hS (Ay hg hT eD) (ED hg hT hl) (ED hg hT hhh) (ED hg hT hm) h;exact⟨z,by rw[hex];simp[hz],bN⟩
  ·exact A5
 ·next n e hu=>
  split
  ·next sz XA=>
   intro C T a S w hg hT hS v h;obtain⟨u,eD,h⟩:=Qa.1 h;obtain⟨l,hl,h⟩:=Qa.1 h;obtain⟨hh,hhh,h⟩:=Qa.1 h;have hv:=Ay hg hT eD;rw[hex];have run:∀(ad:Addr) (l' h':Nat),(Instr.sliceBounds false n n (lo.map a.eval) (hi.map a.eval) none).run P w= .ok (l',h',n) w→
    (do pure (.value (←Instr.sliceAt t (.pointer (some ad)) (lo.map a.eval) (hi.map a.eval) (Option.map a.eval none))):Sem Next).run P w=
     .ok (.value (.slice (some (if n=l' then ad else ad.add (l'*sz))) (h'-l') (n-l'))) w:=by
    intro ad l' h' hb;simp[Instr.sliceAt,Ak he hu,Instr.sureAddr,hb,AM he XA]
   generalize a.eval x=xv at hv;cases hv with
   |ptr hd=>
    simp only[aM]at h;obtain⟨h1,ek,h⟩:=Qa.1 h;obtain⟨l1,pd,h⟩:=Qa.1 h;obtain⟨hb,hle,hhn⟩:=Ds (P:=P) (ED hg hT hl) (ED hg hT hhh) (Qj n) (Qj n) ek pd false w;refine⟨_,run _ l1 h1 hb,?_⟩;cases aC:Nat.beq n l1 with
    |true=>
     rw[aC]at h;cases h;have:n=l1:=Qb aC;subst this;have X3:h1-n=0:=by omega
     rw[X3,Nat.sub_self];exact .Ca _ (.some (by simpa using hS.Ww _ hd))
    |false=>
     rw[aC]at h;cases h;have Xl:n≠l1:=fun e=>by subst e;simp at aC
     simp only[Xl,if_false,B7,Nat.add_assoc];exact .slice hd ⟨rfl,by omega⟩ (by omega)
   |WO hm ha Wk VX=>
    simp only[aM,db]at h;obtain⟨h1,ek,h⟩:=Qa.1 h;obtain⟨l1,pd,h⟩:=Qa.1 h;obtain⟨q,hq,h⟩:=Qa.1 h;cases h;obtain⟨hb,hle,hhn⟩:=Ds (P:=P) (ED hg hT hl) (ED hg hT hhh) (Qj n) (Qj n) ek pd false w;refine⟨_,run _ l1 h1 hb,?_⟩;obtain⟨y,hy,hyd,hql,hcq,_,ZZ⟩:=Wk.cut hq;by_cases h0:(h1-l1)*sz=0
    ·have:q=[]:=List.eq_nil_of_length_eq_zero (by omega);subst this;exact .VT _ h0 (by omega)
    ·have Xl:n≠l1:=by
      intro e;have:h1-l1=0:=by omega
      rw[this]at h0;simp at h0
     simp only[Xl,if_false,B7];refine .Cd hql hm (vs:=y) ?_ hy (fun e=>by cases e) (hcq VX) (by omega);obtain⟨p1,q1,e1,e2⟩:=ha;obtain⟨p2,q2,e3,e4⟩:=ZZ;exact⟨p1++p2,q2++q1,by rw[e1,e3];simp,by simp[e2,e4]⟩
   |_=>simp[aM]at h
  ·exact A5
 ·exact A5
omit he in
theorem Wq.length {C:Cx} {b:Nat} {l:List WV} {es:List MapEntry} (h:Wq C b l es):es.length=l.length:=by
 induction h with
 |nil=>rfl
 |cons _ _ _ _ _ ih=>simp[ih]
omit he in
theorem AR {w:World} {r:Nat} {x:Obj} (h:w.heap[r]?=some x) (hc:∀c e f,x≠ .cells c e f):(getObj r).run P w= .ok x w:=by
 simp only[getObj,Sem.run,h]
omit he in
structure fp (C:Cx) (b:Nat) (es:List WV) (clock:Nat) (w:World) (arr:Array MapEntry) (l:List MapEntry):Prop where
 d:C.D b
 at_:w.heap[(C.pl b).Cn]?=some (.map arr clock)
 perm:l.Perm arr.toList
 b8:Wq C b es l
 keys:vF es
 nodup:(l.map (·.born)).Nodup
 vl:∀n,C.G b n→C.gh b n<clock
 stamps:∀n,C.G b n→n<clock
 inj:∀n m,C.G b n→C.G b m→C.gh b n=C.gh b m→n=m
omit he in
theorem Wn.map {C:Cx} {S:St} {w:World} (h:Wn C S w) {b:Nat} {es:List WV} {clock:Nat} (hb:S.heap.get b=some (.map es clock)):∃arr l,fp C b es clock w arr l:=by
 obtain⟨hd,x,hx,hr⟩:=h.live b _ hb;cases hr with
 |map hp h hk hn hc hg hi=>exact⟨_,_,hd,hx,hp,h,hk,hn,hc,hg,hi⟩
omit he in
theorem Wq.kW {C:Cx} {b:Nat} {l:List WV} {es:List MapEntry} (h:Wq C b l es) {n:Nat} (hh:∀k,C.G b k→C.gh b k<n):∀e∈es,e.born<n:=by
 induction h with
 |nil=>simp
 |cons hk hv hg hn _ ih=>
  intro e he;rcases Qk.1 he with rfl|he
  ·rw[hn];exact hh _ hg
  ·exact ih e he
theorem zL {o:Oper} {c:Call} {t:TypeId} {x:Operand} (ho:o.op= .call c) (hc:c.callee= .builtin .len) (jt:c.argTypes.toList.head?=some t) (ZQ:c.args.toList=[x]):
 XN E P o (fN E t x):=by
 have X0:c.args= #[x]:=Array.ext' (by simpa using ZQ);have pe:c.argTypes[0]?=some t:=by rw[←jt,List.head?_eq_getElem?];simp
 have hex:∀ρ,execOp ρ o=(do pure (.value (←Builtin.len_ c.argTypes o.type #[ρ x]))):=by
  intro ρ;simp[execOp,ho,resolve,hc,X0,invoke,builtin]
 unfold fN;split
 ·next hu=>
  refine B5 (G:=fun v=>Builtin.len_ c.argTypes o.type #[v]) hex ?_;intro C w v y r hv hr;cases hv with
  | @str _ q s hs=>
   cases hr;refine⟨goInt s.size,by simp[Builtin.len_,pe,Ak he hu],?_⟩;rw[←hs];have:((W6 s.data.toList:Nat):Int)=(s.size:Int):=by simp
   rw[this];exact .int _ _
  |_=>simp[kC]at hr
 ·next e hu=>
  refine B5 (G:=fun v=>Builtin.len_ c.argTypes o.type #[v]) hex ?_;intro C w v y r hv hr;cases hv<;>simp only[ao]at hr<;>first|(cases hr;done)|skip
  all_goals
   cases hr;exact⟨_,by simp[Builtin.len_,pe,Ak he hu];rfl,.int _ _⟩
 ·next n e hu=>
  refine B5 (G:=fun v=>Builtin.len_ c.argTypes o.type #[v]) (f:=fun _=>some (.int .i64 n)) hex ?_;intro C w v y r hv hr;cases hr;exact⟨_,by simp[Builtin.len_,pe,Ak he hu];rfl,.int _ _⟩
 ·next k e hu=>
  refine GH (G:=fun v=>Builtin.len_ c.argTypes o.type #[v]) hex ?_;intro C S w v y r hS hv hr;simp only[qn]at hr;obtain⟨es,bX,hr⟩:=Qa.1 hr;cases hr;cases hv with
  |VU=>cases bX;exact⟨_,by simp[Builtin.len_,pe,Ak he hu];rfl,.int _ _⟩
  |map hd=>
   simp only[im]at bX;obtain⟨cl,hm⟩:=Ka bX;obtain⟨arr,l,hmr⟩:=hS.map hm;have hx:=hmr.at_;have hp:=hmr.perm;have yF:=hmr.b8;refine⟨goInt arr.size,by simp[Builtin.len_,pe,Ak he hu,AR hx (by intros;simp)],?_⟩;have:((W6 es:Nat):Int)=(arr.size:Int):=by
    have h1:=yF.length;have h2:=hp.length_eq;simp only[Array.length_toList]at h2;simp only[D1];omega
   rw[this];exact .int _ _
  |_=>simp[im]at bX
 ·next a hu=>
  split
  ·next n e qT=>
   refine B5 (G:=fun v=>Builtin.len_ c.argTypes o.type #[v]) (f:=fun _=>some (.int .i64 n)) hex ?_;intro C w v y r hv hr;cases hr;exact⟨_,by simp[Builtin.len_,pe,Ak he hu,Ak he qT];rfl,.int _ _⟩
  ·exact A5
 ·exact A5
theorem zM {o:Oper} {c:Call} {t:TypeId} {x:Operand} (ho:o.op= .call c) (hc:c.callee= .builtin .cap) (jt:c.argTypes.toList.head?=some t) (ZQ:c.args.toList=[x]):
 XN E P o (qo E t x):=by
 have X0:c.args= #[x]:=Array.ext' (by simpa using ZQ);have pe:c.argTypes[0]?=some t:=by rw[←jt,List.head?_eq_getElem?];simp
 have hex:∀ρ,execOp ρ o=(do pure (.value (←Builtin.cap_ c.argTypes o.type #[ρ x]))):=by
  intro ρ;simp[execOp,ho,resolve,hc,X0,invoke,builtin]
 unfold qo;split
 ·next e hu=>
  refine B5 (G:=fun v=>Builtin.cap_ c.argTypes o.type #[v]) hex ?_;intro C w v y r hv hr;cases hv with
  |Ca a zA=>cases hr;exact⟨_,by simp[Builtin.cap_,pe,Ak he hu];rfl,.int _ _⟩
  | @slice _ b off len sz cap k hd YM Yl=>
   cases cap with
   |none=>simp[oW]at hr
   |some n=>
    obtain⟨rfl,h0⟩:=YM;cases k with
    |zero=>omega
    |succ k=>cases hr;exact⟨_,by simp[Builtin.cap_,pe,Ak he hu];rfl,.int _ _⟩
  |Xj zA hd YM=>simp[oW]at hr
  |_=>simp[oW]at hr
 ·exact A5
end
section
variable {E : Env} {P : Program} (he : CN E P)
theorem F1 {C:Cx}:∀(l:List UInt8),VS C (byteCells l) (l.map fun b=> .int .u8 b.toNat)∧Cells (byteCells l)∧(byteCells l).length=l.length
 | []=>⟨.nil,(fun _ h=>by cases h),rfl⟩
 |c::l=>by
  obtain⟨h1,h2,h3⟩:=F1 (C:=C) l;refine⟨.cons (.int _ _) h1,fun v hv=>?_,by simp[byteCells,h3]⟩;rcases Qk.1 hv with rfl|hv
  ·rfl
  ·exact h2 v hv
theorem Fg {C:Cx}:∀ {cs:List AV} {vs:List Value} {r:List UInt8},VS C cs vs→WR cs=some r→
 ∃ns:List Int,vs=ns.map (.int .u8)∧r=ns.map fun n=>UInt8.ofNat n.toNat
 | [],vs,r,h,e=>by cases h;cases e;exact⟨[],rfl,rfl⟩
 |v::cs,vs,r,h,e=>by
  cases h with
  |cons hv ht=>
  cases hv with
  |int k n=>
   cases k<;>simp only[WR]at e<;>try (cases e;done)
   obtain⟨q,hq,e1⟩:=Qa.1 e;cases e1;obtain⟨ns,h1,h2⟩:=Fg ht hq;exact⟨n::ns,by simp[h1],by simp[h2]⟩
  |_=>simp[WR]at e
include he
theorem LB {e:TypeId} (h:isByte E e=true):C7 E e=some (.int .u8):=by
 unfold isByte at h;split at h
 ·next hu=>exact hu
 ·cases h
omit he in
theorem M6 {w:World} (a:Addr):jo w a []:=fun j v h=>by simp at h
omit he in
theorem i' {C:Cx} {S:St} {w:World} (hS:Wn C S w) {v:AV} {x:Value} (hv:VR C v x) {sz:Nat} {p:List AV×Nat} (e:Xa S sz v=some p):
 ∃a c vs,x= .slice a p.2 c∧VS C p.1 vs∧Cells p.1∧vs.length=p.2*sz∧(∀ad,a=some ad→jo w ad vs)∧(a=none→vs=[]):=by
 cases hv with
 |Ca a zA=>cases e;exact⟨a,0,[],rfl,.nil,(fun _ h=>by cases h),by simp,fun ad _=>M6 ad,fun _=>rfl⟩
 |VT a h0 Yl=>
  rename_i Yp cl len c
  simp only[Xa]at e;cases hs:Nat.beq Yp sz with
  |false=>rw[hs]at e;cases e
  |true=>
   rw[hs]at e;obtain⟨l,hl,e1⟩:=Qa.1 e;cases e1;have:Yp=sz:=Qb hs;subst this;rw[h0]at hl;cases hl;exact⟨a,c,[],rfl,.nil,(fun _ h=>by cases h),by simp[h0],fun ad _=>M6 ad,fun _=>rfl⟩
 |Cd hl hm ha Wk XK VX Yl=>
  rename_i Cn off len Yp c cl cs ms vs
  simp only[Xa]at e;cases hs:Nat.beq Yp sz with
  |false=>rw[hs]at e;cases e
  |true=>
   rw[hs]at e;obtain⟨l,aB,e1⟩:=Qa.1 e;cases e1;have:Yp=sz:=Qb hs;subst this;obtain⟨post,rfl,pf⟩:=DH aB;obtain⟨y,z,rfl,h1,h2⟩:=AY Wk;obtain⟨cc,ty,fr,hx,rfl⟩:=hS.iK _ _ hm;exact⟨_,c,y,rfl,h1,VX.sub.1,h1.length.trans pf,(fun ad lG=>by cases lG;exact Kl hx ha.left),(fun h=>by cases h)⟩
 |slice hd hc Yl=>
  rename_i b off len Yp cap c
  simp only[Xa]at e;cases hs:Nat.beq Yp sz with
  |false=>rw[hs]at e;cases e
  |true=>
   rw[hs]at e;obtain⟨cs,VX,e1⟩:=Qa.1 e;obtain⟨q,hq,e2⟩:=Qa.1 e1;obtain⟨l,aB,e3⟩:=Qa.1 e2;cases e3;have:Yp=sz:=Qb hs;subst this;obtain⟨pre,rfl,hp⟩:=Dz hq;obtain⟨post,rfl,pf⟩:=DH aB;obtain⟨_,cc,ty,fr,vs,hx,Wk,ha,XA,vX,_⟩:=hS.cells VX;obtain⟨y,z,rfl,h1,h2⟩:=AY Wk;obtain⟨z1,z2,rfl,h3,h4⟩:=AY h2;refine⟨_,c,z1,rfl,h3,(vX.sub.2).sub.1,h3.length.trans pf,(fun ad lG=>?_),(fun h=>by cases h)⟩;cases lG;refine Kl hx ?_;have:=ha.sub (a:=y) (b:=z1) (c:=z2) (by simp);rw[h1.length,hp]at this;exact this
 |Xj zA hd hc=>
  rename_i b off Yp a c
  simp only[Xa]at e;cases hs:Nat.beq Yp sz with
  |false=>rw[hs]at e;cases e
  |true=>
   rw[hs]at e;obtain⟨cs,VX,e1⟩:=Qa.1 e;obtain⟨q,hq,e2⟩:=Qa.1 e1;obtain⟨l,aB,e3⟩:=Qa.1 e2;cases e3;rw[Nat.zero_mul]at aB;cases aB;exact⟨_,c,[],rfl,.nil,(fun _ h=>by cases h),by simp,fun ad _=>M6 ad,fun _=>rfl⟩
 |_=>simp[Xa]at e
omit he in
theorem S4 (ns:List Int) (s:ByteArray):(ns.foldl (fun r n=>r.push (UInt8.ofNat n.toNat)) s).data.toList=s.data.toList++ns.map fun n=>UInt8.ofNat n.toNat:=by
 induction ns generalizing s with
 |nil=>simp
 |cons n ns ih=>rw[List.foldl_cons,ih];simp
theorem PP {src dst e:TypeId} (h1:C7 E src=some (.slice e)) (h2:C7 E dst=some .string) (h3:isByte E e=true) {C:Cx} {S:St} {w:World} (hS:Wn C S w) {v r:AV} {x:Value}
 (hv:VR C v x) (h:ct S v=some r):∃z,(convert src dst x).run P w= .ok z w∧VR C r z:=by
 simp only[ct]at h;obtain⟨p,hp,h⟩:=Qa.1 h;obtain⟨q,hq,h⟩:=Qa.1 h;cases h;obtain⟨a,c,vs,rfl,Wk,_,hlen,gy,mm⟩:=i' hS hv hp;obtain⟨ns,hns,rfl⟩:=Fg Wk hq;rw[run_convert_bytes_string w src dst e a p.2 c (Ed he h1) (Ed he (LB he h3)) (Ed he h2)];cases a with
 |none=>
  have h0:=mm rfl;rw[hns]at h0;have:ns=[]:=by simpa using h0
  subst this;exact⟨.string .empty,rfl,.str U⟩
 |some ad=>
  have hl:=HO (P:=P) (gy ad rfl) p.2 (by simpa using hlen);rw[hns]at hl;exact⟨_,run_bytesToString w ad p.2 c ns hl,.str (by rw[S4];rfl)⟩
theorem OU {src dst e:TypeId} (h1:C7 E src=some .string) (h2:C7 E dst=some (.slice e)) (h3:isByte E e=true) {C:Cx} {S:St} {w:World} (hS:Wn C S w) {v:AV} {x:Value}
 (hv:VR C v x) {ob:CB} {g:Nat→AV} (h:eM e v=some (.obj ob g)):
 ∃C' z w',(convert src dst x).run P w= .ok z w'∧Cv C S w C' (S.alloc ob) w'∧VR C' (g S.next) z:=by
 cases hv with
 | @str _ l s hs=>
  cases h;obtain⟨b1,b2,b3⟩:=F1 (C:=C) l;let q:=Question.appendCap s.size 0 e
  let cap:=q.cut (w.tape w.drawn q)
  have YM:s.size≤cap:=Nat.le_add_right _ _;let arr:Array Value:=(s.data.map fun b=> .int .u8 b.toNat)++Array.replicate (cap-s.size) (.int .u8 0)
  have hlen:l.length=s.size:=by rw[←hs];simp
  have zN:bytesRow s cap=arr:=rfl;have n4:arr.size=cap:=by
   simp only[arr,Array.size_append,Array.size_map,Array.size_replicate];have:s.data.size=s.size:=rfl;omega
  have hlist:arr.toList=(l.map fun b=>Value.int .u8 b.toNat)++(List.replicate (cap-s.size) (.int .u8 0)):=by
   simp[arr,←hs]
  have gN:=Cv.drew hS (w.drawn+1);have jj:=Cv.alloc (gN.st) (.cells (byteCells l) e true) (.cells arr e (cap,cap+1)) cap (by
   refine .cells (b1.mono (GB gN.st _)) ?_ ?_ b2 (.inl (by rw[n4];exact Qj _)) (fun h=>by cases h)
   ·rw[Bx,hlist];exact⟨[],List.replicate (cap-s.size) (.int .u8 0),by simp,rfl⟩
   ·rw[Bx];exact n4)
  refine⟨_,.slice (some ⟨w.heap.size,0,none⟩) s.size cap,_,?_,gN.trans jj,?_⟩
  ·rw[run_bytes_of_string w src dst e s (Ed he h1) (Ed he h2) (Ed he (LB he h3))];show Result.ok (Value.slice _ s.size cap) (w.drew.alloc (.cells (bytesRow s cap) e ((bytesRow s cap).size,(bytesRow s cap).size+1)))=_;rw[zN,n4];rfl
  ·have:=Fa (C:=C) (S:=S) (w:= {w with drawn:=w.drawn+1}) (n:=cap) (len:=s.size) (sz:=1) (cap:=none) (c:=cap) ⟨by simp,Nat.one_pos⟩ YM;show VR _ (.slice S.next 0 (W6 l) 1 none) _;rw[D1,hlen];exact this
 |_=>simp[eM]at h
omit he in
theorem FH {o:Oper} {src dst:TypeId} {x:Operand} (ho:o.op= .convert src dst x):∀ρ,execOp ρ o=(do pure (.value (←convert src dst (ρ x)))):=by
 intro ρ;simp[execOp,ho]
theorem Sh {o:Oper} {src dst:TypeId} {x:Operand} (ho:o.op= .convert src dst x) {j k:IntKind} (h1:C7 E src=some (.int j)) (h2:C7 E dst=some (.int k)):
 XN E P o (.pure fun T=>(Cc E x T).bind (ij k)):=by
 refine B5 (FH ho) ?_;intro C w v y r hv hr;cases hv with
 |int q n=>cases hr;exact⟨_,by simp[convert,Ak he h1,Ak he h2,Conv.intToInt],.int _ _⟩
 |_=>simp[ij]at hr
theorem Sg {o:Oper} {src dst:TypeId} {x:Operand} (ho:o.op= .convert src dst x) (h1:C7 E src=some .string) (h2:C7 E dst=some .string):
 XN E P o (.pure fun T=>(Cc E x T).bind nk):=by
 refine B5 (FH ho) ?_;intro C w v y r hv hr;cases hv with
 |str hs=>cases hr;exact⟨_,by simp[convert,Ak he h1,Ak he h2],.str hs⟩
 |_=>simp[nk]at hr
theorem OT {src dst t:TypeId} {n:Nat} (h1:C7 E src=some (.pointer t)) (h2:C7 E dst=some .unsafePointer) (hs:Am.sizeOf E t=some (n+1)) {C:Cx} {S:St} {w:World} (hS:Wn C S w)
 {v r:AV} {x:Value} (hv:VR C v x) (h:aJ S v=some r):∃z,(convert src dst x).run P w= .ok z w∧VR C r z:=by
 cases hv with
 |CJ=>
  cases h;exact⟨_,by simp[convert,Ak he h1,Ak he h2,Conv.unsafePointer],.CJ⟩
 | @ptr _ b off hd=>
  simp only[aJ]at h;obtain⟨cs,VX,h⟩:=Qa.1 h;cases hb:Nat.blt off (W6 cs)with
  |false=>rw[hb]at h;cases h
  |true=>
   rw[hb]at h;cases h;have C6:off<cs.length:=by simpa[Nat.blt_eq]using hb
   obtain⟨_,c,ty,fr,vs,hx,Wk,ha,XA,_,_⟩:=hS.cells VX;have hle:=ha.le;have e1:=Wk.length;simp only[Array.length_toList]at hle;have hnot:¬(c.size≤(C.pl b).base+off):=by omega
   have hsh:w.shape? (C.pl b).Cn=some (ty,c.size):=by simp[World.shape?,hx]
   refine⟨_,?_,.ptr hd⟩;simp[convert,Ak he h1,Ak he h2,Conv.unsafePointer,Conv.seenAt,viewAt,cellsIn,hsh,AM he hs,hnot]
 |_=>simp[aJ]at h
omit he in
theorem Ip {u off:Nat}:∀ {fs:List Field},da u off fs=true→∃f∈fs,f.offset=off∧f.type=u
 | [],h=>by cases h
 |f::l,h=>by
  simp only[da,Bool.or_eq_true,Qf]at h;rcases h with⟨h1,h2⟩|h
  ·exact⟨f,Qh ..,Qb h1,Qb h2⟩
  ·obtain⟨g,hg,h⟩:=Ip h;exact⟨g,Qg _ hg,h⟩
theorem IL {t:TypeId} {n:Nat} (h:Am.sizeOf E t=some n):P.cellsOf t=n:=by
 unfold Am.sizeOf at h;cases hi:E.tys.get t with
 |none=>rw[hi]at h;cases h
 |some i=>rw[hi]at h;simp[Program.cellsOf,he.ty t i hi,Option.some.inj h]
theorem vY {e u off n m k:Nat} (hn:Am.sizeOf E e=some n) (hm:Am.sizeOf E u=some (m+1)) (h:kz E e u off=true) (hk:n≤k) (ho:off<n):
 liesAt P P.depth e (k/P.cellsOf e) off u 1=true:=by
 have qP:∃q,P.depth=q+2:=⟨_,rfl⟩
 obtain⟨q,hq⟩:=qP;have hc:=IL (P:=P) he hn;have hcu:=IL (P:=P) he hm;have jQ:∀t d,sameLayout P (d+1) t t=true:=fun t d=>by simp[sameLayout]
 have zO:0<k/n:=Nat.div_pos hk (by omega);rw[hc];rw[hq,liesAt];refine Bool.or_eq_true_iff.2 (.inl ?_);rw[hq,rowAt,hc];have mn:n≠0:=by omega
 have hmod:off % n=off:=Nat.mod_eq_of_lt ho;have hdiv:off/n=0:=Nat.div_eq_of_lt ho;simp only[mn,if_false,hmod,hdiv];unfold kz at h;rcases Bool.or_eq_true_iff.1 h with h|h
 ·simp only[Qf]at h;have e1:e=u:=Qb h.1;have e2:off=0:=Qb h.2;subst e1;subst e2;simp[jQ];left;omega
 ·rw[Qf]at h;obtain⟨hnest,h⟩:=h;split at h
  ·next fs hu=>
   obtain⟨f,hf,h1,h2⟩:=Ip h;refine Bool.or_eq_true_iff.2 (.inr ?_);simp only[Ed he hu,he.flat e hnest];simp only[Qf,decide_eq_true_eq,Bool.not_false,true_and];refine⟨zO,?_⟩;rw[←Array.any_toList,List.any_eq_true];refine⟨f,hf,?_⟩;subst h1;subst h2;simp[rowAt,hcu,jQ]
  ·cases h
theorem M9 {src dst u:TypeId} {m:Nat} (h1:C7 E src=some .unsafePointer) (h2:C7 E dst=some (.pointer u)) (hs:Am.sizeOf E u=some (m+1)) {C:Cx} {S:St} {w:World} (hS:Wn C S w)
 {v r:AV} {x:Value} (hv:VR C v x) (h:YX E S u v=some r):∃z,(convert src dst x).run P w= .ok z w∧VR C r z:=by
 cases hv with
 |CJ=>
  cases h;exact⟨_,by simp[convert,Ak he h1,Ak he h2,Conv.unsafePointer],.CJ⟩
 | @ptr _ b off hd=>
  simp only[YX]at h;unfold bm at h;split at h
  ·next cs e mV=>
   obtain⟨n,hn,h⟩:=Qa.1 h;cases hb:(kz E e u off&&Nat.ble n (W6 cs)&&Nat.blt off n)with
   |false=>rw[hb]at h;cases h
   |true=>
    rw[hb]at h;cases h;simp only[Qf]at hb;obtain⟨⟨b1,b2⟩,b3⟩:=hb;obtain⟨_,xo,hx,hr⟩:=hS.live b _ mV;cases hr with
    |cells Wk ha XA VX hf hp=>
    rename_i c fr vs
    obtain⟨p1,p2,p3⟩:=hp rfl;have qZ:=vY (P:=P) (k:=c.size) he hn hs b1 (by have:=Qc b2;simp only[D1]at this;omega) (by simpa[Nat.blt_eq]using b3);have hsh:w.shape? (C.pl b).Cn=some (e,c.size):=by simp[World.shape?,hx]
    refine⟨_,?_,.ptr hd⟩;rw[p1,Nat.zero_add];simp[convert,Ak he h1,Ak he h2,Conv.unsafePointer,Conv.seenAt,viewAt,variablesAt,hsh,AM he hs,qZ]
  ·cases h
 |_=>simp[YX]at h
theorem vZ {o:Oper} {src dst:TypeId} {x:Operand} (ho:o.op= .convert src dst x):XN E P o (cu E src dst x):=by
 unfold cu;split
 ·next j k h1 h2=>exact Sh he ho h1 h2
 ·next t h1 h2=>
  split
  ·next n hs=>exact GH (FH ho) fun C S w v y r hS hv hr=>OT he h1 h2 hs hS hv hr
  ·exact A5
 ·next u h1 h2=>
  split
  ·next n hs=>exact GH (FH ho) fun C S w v y r hS hv hr=>M9 he h1 h2 hs hS hv hr
  ·exact A5
 ·next h1 h2=>exact Sg he ho h1 h2
 ·next e h1 h2=>
  cases hb:isByte E e with
  |false=>exact A5
  |true=>
   intro C T a S w hg hT hS;refine⟨fun v h=>?_,fun ob g h=>?_⟩
   ·obtain⟨u,hu,h⟩:=Qa.1 h;unfold eM at h;split at h<;>cases h
   ·obtain⟨u,hu,h⟩:=Qa.1 h;obtain⟨C',z,w',hz,ht,hr⟩:=OU (P:=P) he h1 h2 hb hS (Ay hg hT hu) h;exact⟨C',z,w',by rw[FH ho];simp[hz],ht,hr⟩
 ·next e h1 h2=>
  cases hb:isByte E e with
  |false=>exact A5
  |true=>exact GH (FH ho) fun C S w v y r hS hv hr=>PP he h1 h2 hb hS hv hr
 ·exact A5
end
theorem Od (fY:Nat):∀(r c:Nat),Builtin.growBy fY r c≤Nat.max c (2*fY+192)
 |0,c=>Nat.le_max_left _ _
 |r+1,c=>by
  unfold Builtin.growBy;split
  ·exact Nat.le_max_left _ _
  ·refine Nat.le_trans (Od fY r _) ?_;refine Nat.max_le.2 ⟨?_,Nat.le_max_right _ _⟩;exact Nat.le_trans (by omega) (Nat.le_max_right _ _)
theorem JV {fY cap:Nat} (h:cap<fY):Builtin.nextslicecap fY cap≤2*fY+512:=by
 unfold Builtin.nextslicecap;split
 ·omega
 ·split
  ·omega
  ·refine Nat.le_trans (Od fY 4 cap) (Nat.max_le.2 ⟨by omega,by omega⟩)
theorem Tz {fY cap b:Nat} (h:cap<fY) (hs:small fY b=true):¬(Builtin.nextslicecap fY cap*b>2^48):=by
 obtain⟨h1,h2,h3,h4⟩:=Ef hs;have:=Nat.mul_le_mul_right b (JV h);rw[Nat.add_mul,Nat.mul_assoc]at this;omega
section
variable {E : Env} {P : Program}
theorem jo.heap {w w':World} (h:w'.heap=w.heap) {a:Addr} {vs:List Value} (hh:jo w a vs):jo w' a vs:=by
 intro j v hv;have:=hh j v hv;unfold World.cell? at this⊢;rw[h];exact this
theorem Im {C:Cx} {S:St} {w:World} (hS:Wn C S w) {v:AV} {x:Value} (hv:VR C v x) {sz:Nat} {p:List AV×Nat} (e:Xa S sz v=some p):
 ∃xs,(Builtin.lenOf x).run P w= .ok p.2 w∧VS C p.1 xs∧Cells p.1∧xs.length=p.2*sz∧∀w',w'.heap=w.heap→(Builtin.firstCells sz p.2 x).run P w'= .ok xs.toArray w':=by
 obtain⟨a,c,vs,rfl,Wk,VX,hlen,gy,mm⟩:=i' hS hv e;refine⟨vs,rfl,Wk,VX,hlen,fun w' hw=>?_⟩;cases a with
 |none=>rw[mm rfl];rfl
 |some ad=>exact HO ((gy ad rfl).heap hw) _ hlen
theorem Oz {C:Cx} {S:St} {w:World} (hS:Wn C S w) {v:AV} {x:Value} (hv:VR C v x) {sz:Nat} {p:List AV×Nat} (e:WG S sz v=some p):
 ∃xs,(Builtin.lenOf x).run P w= .ok p.2 w∧VS C p.1 xs∧Cells p.1∧xs.length=p.2*sz∧∀w',w'.heap=w.heap→(Builtin.firstCells sz p.2 x).run P w'= .ok xs.toArray w':=by
 unfold WG at e;split at e
 ·next b=>
  cases hb:Nat.beq sz 1 with
  |false=>rw[hb]at e;cases e
  |true=>
   rw[hb]at e;cases e;have:sz=1:=Qb hb;subst this;cases hv with
   | @str _ l s hs=>
   obtain⟨b1,b2,b3⟩:=F1 (C:=C) b;refine⟨_,?_,b1,b2,by simp,fun w' _=>?_⟩
   ·simp[Builtin.lenOf,←hs]
   ·subst hs;simp[Builtin.firstCells];apply Array.ext';simp
 ·exact Im hS hv e
variable (he : CN E P)
include he
def ax (P:Program) (a:Option Addr) (off:Nat) (xs:List Value) (w w':World):Prop:=match a with
 |some a=>(storeCells (a.add off) xs).run P w= .ok () w'
 |none=>w'=w
theorem KY {ts:Array TypeId} {ty t e:TypeId} {sz n len cap:Nat} {x:Value} {xs:List Value} {a:Option Addr} {w w':World} (ht:ts[0]?=some t) (hu:C7 E t=some (.slice e))
 (XA:Am.sizeOf E e=some sz) (hz:XU E (ts.toList.tail.head?)=false) (hl:(Builtin.lenOf x).run P w= .ok n w) (hf:(Builtin.firstCells sz n x).run P w= .ok xs.toArray w)
 (YD:len+n≤cap) (wa:∀u,ts[1]?=some u→∃d,C7 E u=some d) (hw:ax P a (len*sz) xs w w'):
 (Builtin.append_ ts ty #[.slice a len cap,x]).run P w= .ok (.slice a (len+n) cap) w':=by
 have h1:ts[1]?=ts.toList.tail.head?:=by simp[List.head?_eq_getElem?]
 unfold ax at hw;cases h:ts[1]? with
 |none=>
  cases a with
  |none=>subst hw;simp[Builtin.append_,ht,h,Ak he hu,AM he XA,hl,YD,hf]
  |some a=>simp[Builtin.append_,ht,h,Ak he hu,AM he XA,hl,YD,hf,hw]
 |some u=>
  obtain⟨d,hd⟩:=wa u h;rw[←h1,h]at hz;simp only[XU,hd]at hz;have hm:Builtin.append_.match_1 (fun _=>Bool) d (fun _=>true) (fun _=>false)=false:=by cases d<;>first|rfl|(simp at hz)
  cases a with
  |none=>subst hw;simp[Builtin.append_,ht,h,Ak he hu,Ak he hd,hm,AM he XA,hl,YD,hf]
  |some a=>simp[Builtin.append_,ht,h,Ak he hu,Ak he hd,hm,AM he XA,hl,YD,hf,hw]
theorem JF {ts:Array TypeId} {ty t e:TypeId} {sz WJ n len cap:Nat} {x z:Value} {xs YO:List Value} {a:Option Addr} {w:World} (ht:ts[0]?=some t) (hu:C7 E t=some (.slice e))
 (XA:Am.sizeOf E e=some sz) (aW:bytesOf E e=some WJ) (hz:XU E (ts.toList.tail.head?)=false) (hl:(Builtin.lenOf x).run P w= .ok n w)
 (hf:(Builtin.firstCells sz n x).run P w.drew= .ok xs.toArray w.drew) (ho:(Builtin.firstCells sz len (.slice a len cap)).run P w.drew= .ok YO.toArray w.drew)
 (mq:∀w,(zeroValue e).run P w= .ok z w) (YD:cap<len+n) (hs:small (len+n) WJ=true) (wa:∀u,ts[1]?=some u→∃d,C7 E u=some d):
 (Builtin.append_ ts ty #[.slice a len cap,x]).run P w= .ok (.slice (some ⟨w.heap.size,0,none⟩) (len+n) (grownCap w (len+n) cap e))
  (w.drew.alloc (.cells (YO.toArray++(xs.toArray++Builtin.zeroCells z.cells (grownCap w (len+n) cap e-(len+n)))) e)):=by
 have h1:ts[1]?=ts.toList.tail.head?:=by simp[List.head?_eq_getElem?]
 obtain⟨i,hi,vK⟩:=Nv he aW w;have jR:=Tz YD hs;obtain⟨b1,b2,b3,b4⟩:=Ef hs;have hn:¬(len+n≤cap):=by omega
 have du:i.bytes≠0:=by omega
 have kX:¬(281474976710656<Builtin.nextslicecap (len+n) cap*i.bytes):=by rw[vK];exact jR
 have yG:∀w',(typeInfo e).run P w'= .ok i w':=by
  intro w';unfold bytesOf at aW;cases hj:E.tys.get e with
  |none=>rw[hj]at aW;cases aW
  |some j=>
   have:=BL he hj w;rw[hi]at this;cases this;exact BL he hj w'
 cases h:ts[1]? with
 |none=>
  simp[Builtin.append_,ht,h,Ak he hu,AM he XA,hl,hn,yG,du,kX,Question.forced,hf,ho,mq,newRow,grownCap]
 |some u=>
  obtain⟨d,hd⟩:=wa u h;rw[←h1,h]at hz;simp only[XU,hd]at hz;have hm:Builtin.append_.match_1 (fun _=>Bool) d (fun _=>true) (fun _=>false)=false:=by cases d<;>first|rfl|(simp at hz)
  simp[Builtin.append_,ht,h,Ak he hu,Ak he hd,hm,AM he XA,hl,hn,yG,du,kX,Question.forced,hf,ho,mq,newRow,grownCap]
theorem Qt {e:TypeId} {WJ n:Nat} (aW:bytesOf E e=some WJ) (hn:n≤1048576) (hb:n=0∨WJ≤1048576):
 ∃i,(∀w',(typeInfo e).run P w'= .ok i w')∧i.bytes=WJ∧IntKind.i64.wrap (n:Int)=n∧¬(281474976710656:Int)<(n:Int)*(i.bytes:Int):=by
 have hw:IntKind.i64.wrap (n:Int)=n:=Gt (by omega);unfold bytesOf at aW;cases hj:E.tys.get e with
 |none=>rw[hj]at aW;cases aW
 |some j=>
  rw[hj]at aW;have vK:j.bytes=WJ:=Option.some.inj aW;refine⟨j,BL he hj,vK,hw,?_⟩;rw[vK];rcases hb with rfl|hb
  ·simp
  ·have h1:n*WJ≤1048576*1048576:=Nat.mul_le_mul hn hb;have h2:((n*WJ:Nat):Int)≤((1048576*1048576:Nat):Int):=Int.ofNat_le.2 h1;rw[Int.natCast_mul]at h2;omega
theorem JG {ts:Array TypeId} {ty t e:TypeId} {sz WJ n len cap:Nat} {k:IntKind} {z:Value} {a:Option Addr} {w w':World} (ht:ts[0]?=some t) (hu:C7 E t=some (.slice e))
 (XA:Am.sizeOf E e=some sz) (aW:bytesOf E e=some WJ) (hz:XU E (ts.toList.tail.head?)=true) (hn:n≤1048576) (hb:n=0∨WJ≤1048576) (mq:∀w,(zeroValue e).run P w= .ok z w)
 (YD:len+n≤cap) (pg:n≠0→sz≠0) (hw:ax P a (len*sz) (Builtin.zeroCells z.cells n).toList w w'):
 (Builtin.append_ ts ty #[.slice a len cap,.int k n]).run P w= .ok (.slice a (len+n) cap) w':=by
 have h1:ts[1]?=ts.toList.tail.head?:=by simp[List.head?_eq_getElem?]
 unfold ax at hw;cases h:ts[1]? with
 |none=>rw[←h1,h]at hz;cases hz
 |some u=>
  rw[←h1,h]at hz;simp only[XU]at hz;split at hz
  ·next j hd=>
   obtain⟨i,hi,vK,ra,C6⟩:=Qt he aW hn hb;have iN:¬((n:Int)<0):=by omega
   by_cases h0:n=0
   ·subst h0;have hwr':IntKind.i64.wrap 0=0:=ra;have yH:len≤cap:=YD;have hzc:Builtin.zeroCells z.cells 0= #[]:=by simp[Builtin.zeroCells]
    rw[hzc]at hw;cases a with
    |none=>subst hw;simp[Builtin.append_,ht,h,Ak he hu,Ak he hd,AM he XA,asInt,asIntOf,hwr',hi,yH]
    |some a=>simp at hw;simp[Builtin.append_,ht,h,Ak he hu,Ak he hd,AM he XA,asInt,asIntOf,hwr',hi,yH,hw]
   ·have h00:¬(n*sz=0):=by have:=pg h0;simp only[Nat.mul_eq_zero];omega
    cases a with
    |none=>subst hw;simp[Builtin.append_,ht,h,Ak he hu,Ak he hd,AM he XA,asInt,asIntOf,ra,hi,C6,iN,mq,YD]
    |some a=>simp only at hw;simp[Builtin.append_,ht,h,Ak he hu,Ak he hd,AM he XA,asInt,asIntOf,ra,hi,C6,iN,h00,mq,YD,hw]
  ·cases hz
theorem Ji {ts:Array TypeId} {ty t e:TypeId} {sz WJ n len cap:Nat} {k:IntKind} {z:Value} {YO:List Value} {a:Option Addr} {w:World} (ht:ts[0]?=some t) (hu:C7 E t=some (.slice e))
 (XA:Am.sizeOf E e=some sz) (aW:bytesOf E e=some WJ) (hz:XU E (ts.toList.tail.head?)=true) (hn:n≤1048576) (mq:∀w,(zeroValue e).run P w= .ok z w)
 (ho:(Builtin.firstCells sz len (.slice a len cap)).run P w.drew= .ok YO.toArray w.drew)
 (YD:cap<len+n) (hs:small (len+n) WJ=true) (pg:sz≠0) (mn:n≠0):
 (Builtin.append_ ts ty #[.slice a len cap,.int k n]).run P w= .ok (.slice (some ⟨w.heap.size,0,none⟩) (len+n) (grownCap w (len+n) cap e))
  (w.drew.alloc (.cells (YO.toArray++(Builtin.zeroCells z.cells n++Builtin.zeroCells z.cells (grownCap w (len+n) cap e-(len+n)))) e)):=by
 have h1:ts[1]?=ts.toList.tail.head?:=by simp[List.head?_eq_getElem?]
 have jR:=Tz YD hs;obtain⟨b1,b2,b3,b4⟩:=Ef hs;obtain⟨i,hi,vK,ra,C6⟩:=Qt he aW hn (.inr b4);have iN:¬((n:Int)<0):=by omega
 have h00:¬(n*sz=0):=by simp only[Nat.mul_eq_zero];omega
 have hnf:¬(len+n≤cap):=by omega
 have du:i.bytes≠0:=by omega
 have vW:¬(9223372036854775807<(len:Int)+(n:Int)):=by omega
 have kX:¬(281474976710656<Builtin.nextslicecap (len+n) cap*i.bytes):=by rw[vK];exact jR
 cases h:ts[1]? with
 |none=>rw[←h1,h]at hz;cases hz
 |some u=>
  rw[←h1,h]at hz;simp only[XU]at hz;split at hz
  ·next j hd=>
   simp[Builtin.append_,ht,h,Ak he hu,Ak he hd,AM he XA,asInt,asIntOf,ra,hi,C6,iN,h00,mq,hnf,vW,kX,Question.forced,ho,newRow,grownCap]
  ·cases hz
end
end Am
